/-
  What more of the functions compute, each by a small evaluation; no condition beyond what each says.
-/
import Derived.Test.YtpocolhpkkkmeaaGreatMxJnc
set_option linter.unusedSimpArgs false
set_option linter.unusedVariables false
namespace Mx
open Go
variable {M : Nat → Option Body}
def shS (l : List Reg) (n t w : Int) (i : Nat) (x : Nat × Nat × Nat) : St := { t := [(1, .c (I n)), (5, .c (.ptr 5 x.1 0 0)), (7, .c (.row 11100 x.2.1 0 l.length)), (8, .c (I i))], o := [(5, ⟨x.1, 2, true, true, [[I t, I w]]⟩), (11100, ⟨x.2.1, 3, true, false, (setTo l n t w i).map encReg⟩)], n := x.2.2 }
def shE (l : List Reg) (n t w : Int) (x : Nat × Nat × Nat) : St := { t := [(1, .c (I n)), (5, .c (.ptr 5 x.1 0 0)), (7, .c (.row 11100 x.2.1 0 l.length)), (8, .c (I l.length)), (24, .c (.bool false))], o := [(5, ⟨x.1, 2, true, true, [[I t, I w]]⟩), (11100, ⟨x.2.1, 3, true, false, (setTo l n t w l.length).map encReg⟩)], n := x.2.2 }
theorem spec_SetFlags.turn (k : spec_PutReg.k M) (l : List Reg) (n t w : Int) (K i : Nat) (hn : 0 ≤ n) (hl : l.length = 3) (hi : i < l.length) (x : Nat × Nat × Nat) :
    ∃ y, exC (run M) K spec_SetFlags.l0 (shS l n t w i x) = some (.normal, shS l n t w (i + 1) y) := by
  obtain ⟨v, u, x⟩ := x
  have e5 : IntKind.i64.wrap ((i : Int) + 1) = (i : Int) + 1 := wrap_i64 (by omega) (by omega)
  have h1 := spec_PutReg.says k l[i] (bitOf n i) t w
  have hlen : ((setTo l n t w i).map encReg).length = l.length := by simp [setTo_len]
  have hi2 : i < ((setTo l n t w i).map encReg).length := by omega
  have hat : ((setTo l n t w i).map encReg)[i]'hi2 = encReg l[i] := by rw [List.getElem_map, setTo_at]
  have hset : (setTo l n t w (i + 1)).map encReg = ((setTo l n t w i).map encReg).set i (encReg (setFlag n t w i l[i])) := by rw [setTo_succ _ _ _ _ _ hi, List.map_set]
  have hmin : Min.min i 64 = i := by omega
  have hu : IntKind.u64.wrap (i : Int) = i := by unfold IntKind.wrap; simp [IntKind.bits, IntKind.signed]; omega
  have hdiv : 0 ≤ n.fdiv ((2 ^ i : Nat) : Int) := Int.fdiv_nonneg hn (Int.natCast_nonneg _)
  have hbit : (n.fdiv ((2 ^ i : Nat) : Int)).tmod 2 = bitOf n i := by
    unfold bitOf; exact Int.tmod_eq_emod_of_nonneg hdiv
  have hbit2 : (n.fdiv (2 ^ i)).tmod 2 = bitOf n i := by rw [← hbit]; norm_cast
  have hii : (i : Int) < 3 := by omega
  have h3 : i < 3 := by omega
  have hng : ¬ (i : Int) < 0 := by omega
  simp only [shS, hset, setFlag, Prod.exists]
  generalize (setTo l n t w i).map encReg = rr at *
  simp only [encReg] at h1 hat
  by_cases c : l[i].val = bitOf n i
  · rw [if_pos c]
    have hself : rr.set i [I l[i].val, I l[i].time, I l[i].who] = rr := by
      apply List.ext_getElem?
      intro j
      rw [List.getElem?_set]
      split
      · rename_i hj; subst hj; simp [hi2, hat]
      · rfl
    rw [hself]
    simp (maxSteps := 1000000) [spec_SetFlags.l0, List.range_succ, bs_get, setAt, hl, hlen, hat, e5, hu, hmin, hbit, hbit2, hii, h3, hng, c, encReg, IntKind.bits]
  · rw [if_neg c]
    simp (maxSteps := 1000000) [spec_SetFlags.l0, List.range_succ, bs_get, setAt, hl, hlen, hat, e5, hu, hmin, hbit, hbit2, hii, h3, hng, c, h1, encReg, IntKind.bits]
theorem spec_SetFlags.says (h : spec_SetFlags.k M) (l : List Reg) (n t w : Int) (hl : l.length ≤ 1048576) : run M 184 [.c (regs l), .c (I n), .a [I t, I w]] [] = some (.c (.sl true 3 ((setFlags l n t w).map encReg)), []) := by
  obtain ⟨h0, k1, k3, k2, k4⟩ := h
  have h1 := spec_l01In.inR k1 n 0 7
  have h2 := spec_FlagsOk.says k2 l hl
  have h3 := spec_l04Copy.says k3 l hl
  refine run_code (b := spec_SetFlags.m) h0 ⟨4, ?_⟩
  have e7 : (l.map encReg).length = l.length := by simp
  have e8 : (l.map encReg).all (fun r => r.all T.scalar) = true := by simp [T.scalar]
  unfold setFlags
  simp only [regs] at *
  cases c1 : flagsOk l
  · simp only [Bool.false_eq_true, false_and, if_false]
    generalize l.map encReg = r at *
    simp (maxSteps := 1000000) [exB, spec_SetFlags.m, spec_SetFlags.b, List.range_succ, bs_get, setAt, h2, h3, c1, e7, e8, List.take_of_length_le]
  cases c2 : inR 0 n 7
  · simp only [Bool.false_eq_true, and_false, if_false]
    generalize l.map encReg = r at *
    simp (maxSteps := 1000000) [exB, spec_SetFlags.m, spec_SetFlags.b, List.range_succ, bs_get, setAt, h1, h2, h3, c1, c2, e7, e8, List.take_of_length_le]
  have hl3 := (flagsOk_regs c1).1
  obtain ⟨g, hr⟩ := count_loop (f := exC (run M) 4 spec_SetFlags.l0) l.length (shS l n t w) 0 (shE l n t w)
    (fun i hi x => spec_SetFlags.turn k4 l n t w 4 i (inR_iff.1 c2).1 hl3 hi x)
    (fun x => by
      obtain ⟨v, u, x⟩ := x
      simp only [shS, shE, Prod.exists]
      generalize (setTo l n t w l.length).map encReg = rr
      simp (maxSteps := 1000000) [spec_SetFlags.l0, List.range_succ, bs_get, setAt])
  have e9 : ((setTo l n t w l.length).map encReg).length = l.length := by simp [setTo_len]
  simp only [true_and, if_true]
  rw [← setTo_all]
  simp only [shS, shE, setTo_zero] at hr
  generalize (setTo l n t w l.length).map encReg = rr at *
  generalize l.map encReg = r at *
  simp [hl3] at hr
  simp (maxSteps := 1000000) [exB, spec_SetFlags.m, spec_SetFlags.b, List.range_succ, bs_get, setAt, hr, h1, h2, h3, c1, c2, e7, e8, e9, hl3, List.take_of_length_le]
end Mx

namespace Mx
open Go
variable {M : Nat → Option Body}
def flagMail (b : Box) (g n t w : Int) : Box × Bool := match mailO b.mails g with
  | none => (b, false)
  | some k => match b.mails[k]? with
    | none => (b, false)
    | some m => if boxOk b = true ∧ inR 0 n 7 = true ∧ stampOk t w = true then ({ b with mails := b.mails.set k { m with flags := setFlags m.flags n t w } }, true) else (b, false)
theorem mailO_lt {l : List Mail} {g : Int} {k : Nat} (h : mailO l g = some k) : k < l.length := atO_lt l g _ _ _ h
set_option maxHeartbeats 1000000 in
theorem spec_FlagMail.says (h : spec_FlagMail.k M) (b : Box) (hb : BoxIn b) (g n t w : Int) : run M 84 [.a (encBox b), .c (I g), .c (I n), .a [I t, I w]] [] = some (.tup [.a (encBoxO (flagMail b g n t w).1), .c (.bool (flagMail b g n t w).2)], []) := by
  obtain ⟨h0, k2, k1, k3, k4, k5, k6⟩ := h
  have h1 := spec_MailAt.says k1 b g hb.m
  have h2 := spec_BoxOk.says k2 b hb.ok.1 hb.ok.2.1 hb.ok.2.2.1 hb.ok.2.2.2
  have h3 := spec_l01In.inR k3 n 0 7
  have h4 := spec_l06Copy.says k4 b hb
  have h5 := spec_StampOk.says k5 t w
  refine run_code (b := spec_FlagMail.m) h0 ⟨0, ?_⟩
  have e7 : (b.mails.map encMail).length = b.mails.length := by simp
  have e8 := irow_length b.gone
  unfold flagMail
  cases hk : mailO b.mails g with
  | none =>
    rw [hk] at h1
    simp only [intO] at h1
    simp only [encBox, encBoxO, mails, ints] at *
    generalize boxOk b = ok at *
    generalize b.mails.map encMail = rm at *
    generalize irow b.gone = rg at *
    cases ok <;> simp (maxSteps := 1000000) [exB, spec_FlagMail.m, spec_FlagMail.b, List.range_succ, bs_get, setAt, h1, h2, h4, e7, e8, List.take_of_length_le]
  | some k =>
    have hlt := mailO_lt hk
    rw [hk] at h1
    simp only [intO] at h1
    have h6 := spec_SetFlags.says k6 b.mails[k].flags n t w (hb.f _ (List.getElem_mem hlt))
    have hat : (b.mails.map encMail)[k]'(by rw [e7]; exact hlt) = [I b.mails[k].gid, I b.mails[k].uid, regs b.mails[k].flags, S b.mails[k].text] := by rw [List.getElem_map]
    have hset : (b.mails.set k { b.mails[k] with flags := setFlags b.mails[k].flags n t w }).map encMail = (b.mails.map encMail).set k [I b.mails[k].gid, I b.mails[k].uid, .sl false 3 ((setFlags b.mails[k].flags n t w).map encReg), S b.mails[k].text] := by rw [List.map_set]
    have hng : ¬ (k : Int) < 0 := by omega
    simp only [List.getElem?_eq_getElem hlt]
    cases c1 : boxOk b
    · rw [c1] at h2
      simp only [Bool.false_eq_true, false_and, if_false]
      simp only [encBox, encBoxO, mails, ints] at *
      generalize b.mails.map encMail = rm at *
      generalize irow b.gone = rg at *
      simp (maxSteps := 1000000) [exB, spec_FlagMail.m, spec_FlagMail.b, List.range_succ, bs_get, setAt, h1, h2, h4, e7, e8, List.take_of_length_le]
    rw [c1] at h2
    cases c2 : inR 0 n 7
    · rw [c2] at h3
      simp only [Bool.false_eq_true, false_and, and_false, if_false]
      simp only [encBox, encBoxO, mails, ints] at *
      generalize b.mails.map encMail = rm at *
      generalize irow b.gone = rg at *
      simp (maxSteps := 1000000) [exB, spec_FlagMail.m, spec_FlagMail.b, List.range_succ, bs_get, setAt, h1, h2, h3, h4, e7, e8, hng, List.take_of_length_le]
    rw [c2] at h3
    cases c3 : stampOk t w
    · rw [c3] at h5
      simp only [Bool.false_eq_true, and_false, if_false]
      simp only [encBox, encBoxO, mails, ints] at *
      generalize b.mails.map encMail = rm at *
      generalize irow b.gone = rg at *
      simp (maxSteps := 1000000) [exB, spec_FlagMail.m, spec_FlagMail.b, List.range_succ, bs_get, setAt, h1, h2, h3, h4, h5, e7, e8, hng, List.take_of_length_le]
    rw [c3] at h5
    simp only [and_self, if_true]
    simp only [encBox, encBoxO, mails, ints, hset] at *
    generalize b.mails.map encMail = rm at *
    generalize irow b.gone = rg at *
    simp (maxSteps := 1000000) [exB, spec_FlagMail.m, spec_FlagMail.b, List.range_succ, bs_get, setAt, h1, h2, h3, h4, h5, h6, e7, e8, hng, hlt, hat, List.take_of_length_le]
def addMail (b : Box) (g f : Int) (text : List UInt8) (t w : Int) : Box × Bool :=
  if boxOk b = true ∧ mailO b.mails g = none ∧ ¬ g ∈ b.gone ∧ inR 0 f 7 = true ∧ boxOk { b with mails := b.mails ++ [⟨g, b.next, flagsNew f t w, text⟩], next := b.next + 1 } = true
  then ({ b with mails := b.mails ++ [⟨g, b.next, flagsNew f t w, text⟩], next := b.next + 1 }, true) else (b, false)
set_option maxHeartbeats 2000000 in
theorem spec_AddMail.says (h : spec_AddMail.k M) (b : Box) (hb : BoxIn b) (g f : Int) (text : List UInt8) (t w : Int) :
    run M 81 [.a (encBox b), .c (I g), .c (I f), .c (S text), .a [I t, I w]] [] = some (.tup [.a (encBoxO (addMail b g f text t w).1), .c (.bool (addMail b g f text t w).2)], []) := by
  obtain ⟨h0, k2, k1, k3, k5, k4, k6⟩ := h
  have h1 := spec_MailAt.says k1 b g hb.m
  have h2 := spec_BoxOk.says k2 b hb.ok.1 hb.ok.2.1 hb.ok.2.2.1 hb.ok.2.2.2
  have h3 := spec_l01In.inR k3 f 0 7
  have h4 := spec_l06Copy.says k4 b hb
  have h5 := spec_l06In.says k5 b.gone g (by have := hb.g; omega)
  have h6 := spec_FlagsNew.says k6 f t w
  refine run_code (b := spec_AddMail.m) h0 ⟨0, ?_⟩
  have e7 : (b.mails.map encMail).length = b.mails.length := by simp
  have e8 := irow_length b.gone
  unfold addMail
  cases c1 : boxOk b
  · rw [c1] at h2
    simp only [Bool.false_eq_true, false_and, if_false]
    simp only [encBox, encBoxO, mails, ints] at *
    generalize b.mails.map encMail = rm at *
    generalize irow b.gone = rg at *
    simp (maxSteps := 1000000) [exB, spec_AddMail.m, spec_AddMail.b, List.range_succ, bs_get, setAt, h2, h4, e7, e8, List.take_of_length_le]
  rw [c1] at h2
  cases hk : mailO b.mails g with
  | some k =>
    have hge : (0 : Int) ≤ k := by omega
    rw [hk] at h1
    simp only [intO] at h1
    simp only [reduceCtorEq, false_and, and_false, if_false]
    simp only [encBox, encBoxO, mails, ints] at *
    generalize b.mails.map encMail = rm at *
    generalize irow b.gone = rg at *
    simp (maxSteps := 1000000) [exB, spec_AddMail.m, spec_AddMail.b, List.range_succ, bs_get, setAt, h1, h2, h4, e7, e8, hge, List.take_of_length_le]
  | none =>
  rw [hk] at h1
  simp only [intO] at h1
  by_cases c2 : g ∈ b.gone
  · rw [decide_eq_true c2] at h5
    simp only [c2, not_true_eq_false, false_and, and_false, if_false]
    simp only [encBox, encBoxO, mails, ints] at *
    generalize b.mails.map encMail = rm at *
    generalize irow b.gone = rg at *
    simp (maxSteps := 1000000) [exB, spec_AddMail.m, spec_AddMail.b, List.range_succ, bs_get, setAt, h1, h2, h4, h5, e7, e8, List.take_of_length_le]
  rw [decide_eq_false c2] at h5
  cases c3 : inR 0 f 7
  · rw [c3] at h3
    simp only [Bool.false_eq_true, false_and, and_false, if_false]
    simp only [encBox, encBoxO, mails, ints] at *
    generalize b.mails.map encMail = rm at *
    generalize irow b.gone = rg at *
    simp (maxSteps := 1000000) [exB, spec_AddMail.m, spec_AddMail.b, List.range_succ, bs_get, setAt, h1, h2, h3, h4, h5, e7, e8, List.take_of_length_le]
  rw [c3] at h3
  have hnx : b.next ≤ 1000000000 ∧ 0 ≤ b.next := by
    have := (boxOk_vars c1).2.2.2.2.1; exact ⟨this.2, this.1⟩
  have hml := (boxOk_vars c1).2.2.2.2.2.1
  have e9 : IntKind.i64.wrap (b.next + 1) = b.next + 1 := wrap_i64 (by omega) (by omega)
  have hout : BoxIn { b with mails := b.mails ++ [⟨g, b.next, flagsNew f t w, text⟩], next := b.next + 1 } := by
    refine ⟨by simp; omega, hb.g, hb.n, fun m hm => ?_⟩
    rcases List.mem_append.1 hm with hm | hm
    · exact hb.f m hm
    · simp only [List.mem_singleton] at hm
      subst hm; simp [flagsNew]
  have h7 := spec_BoxOk.says k2 _ hout.ok.1 hout.ok.2.1 hout.ok.2.2.1 hout.ok.2.2.2
  have e10 : (b.mails ++ [(⟨g, b.next, flagsNew f t w, text⟩ : Mail)]).map encMail = b.mails.map encMail ++ [[I g, I b.next, .sl false 3 ((flagsNew f t w).map encReg), S text]] := by simp
  have e11 : b.mails.length + 1 ≤ 4294967296 := by omega
  simp only [encBox, mails, e10] at h7
  simp only [hk, c2, not_false_eq_true, true_and]
  cases c4 : boxOk { b with mails := b.mails ++ [⟨g, b.next, flagsNew f t w, text⟩], next := b.next + 1 }
  · rw [c4] at h7
    simp only [Bool.false_eq_true, if_false]
    simp only [encBox, encBoxO, mails, ints] at *
    generalize (flagsNew f t w).map encReg = rf at *
    generalize b.mails.map encMail = rm at *
    generalize irow b.gone = rg at *
    simp (maxSteps := 1000000) [exB, spec_AddMail.m, spec_AddMail.b, List.range_succ, bs_get, setAt, h1, h2, h3, h4, h5, h6, h7, e7, e8, e9, e11, List.take_of_length_le]
  · rw [c4] at h7
    simp only [if_true]
    simp only [encBox, encBoxO, mails, ints, e10] at *
    generalize (flagsNew f t w).map encReg = rf at *
    generalize b.mails.map encMail = rm at *
    generalize irow b.gone = rg at *
    simp (maxSteps := 1000000) [exB, spec_AddMail.m, spec_AddMail.b, List.range_succ, bs_get, setAt, h1, h2, h3, h4, h5, h6, h7, e7, e8, e9, e11, List.take_of_length_le]
end Mx

namespace Mx
attribute [simp] oTmps
open Go
variable {M : Nat → Option Body}
end Mx

namespace Mx
open Go
variable {M : Nat → Option Body}
theorem gidsOk_asc {l : List Int} {most : Int} (h : gidsOk l most = true) : Asc l := by
  simp only [gidsOk, Bool.and_eq_true, decide_eq_true_eq, Option.isNone_iff_eq_none, firstN_isNone] at h
  have hn : ∀ j (hj : j < l.length), ∀ i (hi : i < j), l[i]'(by omega) < l[j] := by
    intro j
    induction j with
    | zero => intro _ i hi; omega
    | succ j ih =>
      intro hj i hi
      have := h.1 (j + 1) hj
      rw [badGid_at hj] at this
      simp at this
      by_cases e : i = j
      · subst e; exact this.2
      · exact Int.lt_trans (ih (by omega) i (by omega)) this.2
  exact List.pairwise_iff_getElem.2 fun i j hi hj hij => hn j hj i hij
theorem boxOk_gone {b : Box} (h : boxOk b = true) : gidsOk b.gone 40 = true := by
  simp only [boxOk, Bool.and_eq_true] at h
  exact h.1.2
def takeOut (b : Box) (g : Int) : Box × Bool := match mailO b.mails g with
  | none => (b, false)
  | some k => if boxOk b = true ∧ b.gone.length < 40 then ({ b with mails := b.mails.take k ++ b.mails.drop (k + 1), gone := gput b.gone g }, true) else (b, false)
set_option maxHeartbeats 1000000 in
theorem spec_TakeOut.says (h : spec_TakeOut.k M) (b : Box) (hb : BoxIn b) (g : Int) : run M 86 [.a (encBox b), .c (I g)] [] = some (.tup [.a (encBoxO (takeOut b g).1), .c (.bool (takeOut b g).2)], []) := by
  obtain ⟨h0, k2, k1, k5, k3⟩ := h
  have h1 := spec_MailAt.says k1 b g hb.m
  have h2 := spec_BoxOk.says k2 b hb.ok.1 hb.ok.2.1 hb.ok.2.2.1 hb.ok.2.2.2
  have h4 := spec_l06Copy.says k3 b hb
  have h5 := spec_l06Put.says k5 b.gone g (by have := hb.g; omega)
  refine run_code (b := spec_TakeOut.m) h0 ⟨0, ?_⟩
  have e7 : (b.mails.map encMail).length = b.mails.length := by simp
  have e8 := irow_length b.gone
  unfold takeOut
  cases hk : mailO b.mails g with
  | none =>
    rw [hk] at h1
    simp only [intO] at h1
    simp only [encBox, encBoxO, mails, ints] at *
    generalize boxOk b = ok at *
    generalize b.mails.map encMail = rm at *
    generalize irow b.gone = rg at *
    cases ok <;> simp (maxSteps := 1000000) [exB, spec_TakeOut.m, spec_TakeOut.b, List.range_succ, bs_get, setAt, h1, h2, h4, e7, e8, List.take_of_length_le]
  | some k =>
    have hlt := mailO_lt hk
    rw [hk] at h1
    simp only [intO] at h1
    have hng : ¬ (k : Int) < 0 := by omega
    cases c1 : boxOk b
    · rw [c1] at h2
      simp only [Bool.false_eq_true, false_and, if_false]
      simp only [encBox, encBoxO, mails, ints] at *
      generalize b.mails.map encMail = rm at *
      generalize irow b.gone = rg at *
      simp (maxSteps := 1000000) [exB, spec_TakeOut.m, spec_TakeOut.b, List.range_succ, bs_get, setAt, h1, h2, h4, e7, e8, List.take_of_length_le]
    rw [c1] at h2
    have h40 := (boxOk_vars c1).2.2.2.2.2.2.1
    have hml := (boxOk_vars c1).2.2.2.2.2.1
    by_cases c2 : b.gone.length < 40
    · have n2 : ¬ 40 ≤ b.gone.length := by omega
      have n3 : ¬ (40 : Int) ≤ (b.gone.length : Int) := by omega
      simp only [c2, and_self, if_true]
      have e9 : IntKind.i64.wrap ((k : Int) + 1) = (k : Int) + 1 := wrap_i64 (by omega) (by omega)
      have e10 : (b.mails.take k ++ b.mails.drop (k + 1)).map encMail = (b.mails.map encMail).take k ++ (b.mails.map encMail).drop (k + 1) := by simp
      have e14 : min k b.mails.length = k := by omega
      have e12 := irow_length (gput b.gone g)
      have e13 : b.mails.length ≤ min k b.mails.length + (b.mails.length - (k + 1) + 1) + 1 := by omega
      simp only [encBox, encBoxO, mails, ints, e10] at *
      generalize b.mails.map encMail = rm at *
      generalize irow b.gone = rg at *
      generalize irow (gput b.gone g) = ru at *
      have f1 : k ≤ b.mails.length := by omega
      have f2 : k + 1 ≤ b.mails.length := by omega
      have f3 : (0 : Int) ≤ k := by omega
      have f4 : (0 : Int) ≤ (k : Int) + 1 := by omega
      have f5 : (k : Int) ≤ b.mails.length := by omega
      have f6 : (k : Int) + 1 ≤ b.mails.length := by omega
      have f7 : ((k : Int) + 1).toNat = k + 1 := by omega
      have f8 : rm.take b.mails.length = rm := List.take_of_length_le (by omega)
      have f9 : k ≤ 4294967296 := by omega
      have f10 : b.mails.length ≤ 4294967296 := by omega
      have f11 : k + (b.mails.length - (k + 1)) ≤ 4294967296 := by omega
      have f13 : IntKind.i64.wrap 1 = 1 := wrap_i64 (by omega) (by omega)
      have f14 : b.mails.length ≤ 4294967297 := by omega
      have f12 : rm.length - (k + 1) ≤ 4294967296 := by omega
      by_cases z : k = 0
      · subst z
        by_cases y : b.mails.length = 1
        · have y2 : rm.drop 1 = [] := List.drop_eq_nil_of_le (by omega)
          simp (maxSteps := 1000000) [exB, spec_TakeOut.m, spec_TakeOut.b, List.range_succ, bs_get, setAt, h1, h2, h4, h5, e7, e8, e9, e12, n2, n3, f13, y, y2, List.take_of_length_le]
        · have y1 : ¬ 1 = b.mails.length := by omega
          simp (maxSteps := 1000000) [exB, spec_TakeOut.m, spec_TakeOut.b, List.range_succ, bs_get, setAt, h1, h2, h4, h5, e7, e8, e9, e12, n2, n3, f1, f2, f3, f4, f5, f6, f7, f8, f9, f10, f11, f12, f13, f14, y, y1, List.take_of_length_le]
      · have z0 : ¬ 0 = k := by omega
        by_cases y : b.mails.length = k + 1
        · have y2 : rm.drop (k + 1) = [] := List.drop_eq_nil_of_le (by omega)
          simp (maxSteps := 1000000) [exB, spec_TakeOut.m, spec_TakeOut.b, List.range_succ, bs_get, setAt, h1, h2, h4, h5, e7, e8, e9, e12, e14, hng, n2, n3, f1, f2, f3, f4, f5, f6, f7, f8, f9, f10, f11, f12, z, z0, y, y2, List.take_of_length_le]
        · have y1 : ¬ k + 1 = b.mails.length := by omega
          simp (maxSteps := 1000000) [exB, spec_TakeOut.m, spec_TakeOut.b, List.range_succ, bs_get, setAt, h1, h2, h4, h5, e7, e8, e9, e12, e14, hng, n2, n3, f1, f2, f3, f4, f5, f6, f7, f8, f9, f10, f11, f12, z, z0, y, y1, List.take_of_length_le]
    · have n2 : 40 ≤ b.gone.length := by omega
      have n3 : (40 : Int) ≤ (b.gone.length : Int) := by omega
      simp only [c2, and_false, if_false]
      simp only [encBox, encBoxO, mails, ints] at *
      generalize b.mails.map encMail = rm at *
      generalize irow b.gone = rg at *
      simp (maxSteps := 1000000) [exB, spec_TakeOut.m, spec_TakeOut.b, List.range_succ, bs_get, setAt, h1, h2, h4, e7, e8, n2, n3, hng, List.take_of_length_le]
end Mx

namespace Mx
open Go
theorem atO_some (l : List Mail) (g : Int) : ∀ d i k, atO l g d i = some k → i ≤ k ∧ ∃ h : k < l.length, (l[k]).gid = g ∧ ∀ j, i ≤ j → (hj : j < k) → (l[j]'(by omega)).gid ≠ g
  | 0, i, k, h => by simp [atO] at h
  | d + 1, i, k, h => by
    simp only [atO] at h
    split at h
    · rename_i hi
      split at h
      · rename_i e
        cases h
        exact ⟨Nat.le_refl _, hi, e, fun j h1 h2 => by omega⟩
      · rename_i e
        obtain ⟨h1, h2, h3, h4⟩ := atO_some l g d (i + 1) k h
        refine ⟨by omega, h2, h3, fun j hj hk => ?_⟩
        by_cases q : j = i
        · subst q; exact e
        · exact h4 j (by omega) hk
    · cases h
theorem atO_none (l : List Mail) (g : Int) : ∀ d i, atO l g d i = none → ∀ j, i ≤ j → j < i + d → (hj : j < l.length) → (l[j]).gid ≠ g
  | 0, i, h, j, h1, h2, hj => by omega
  | d + 1, i, h, j, h1, h2, hj => by
    simp only [atO] at h
    rw [dif_pos (by omega)] at h
    split at h
    · cases h
    · rename_i e
      by_cases q : j = i
      · subst q; exact e
      · exact atO_none l g d (i + 1) h j (by omega) (by omega) hj
theorem mailO_some {l : List Mail} {g : Int} {k : Nat} (h : mailO l g = some k) : ∃ h : k < l.length, (l[k]).gid = g ∧ ∀ j, (hj : j < k) → (l[j]'(by omega)).gid ≠ g := by
  obtain ⟨_, h1, h2, h3⟩ := atO_some l g _ _ _ h
  exact ⟨h1, h2, fun j hj => h3 j (Nat.zero_le _) hj⟩
theorem mailO_none {l : List Mail} {g : Int} : mailO l g = none ↔ ∀ m ∈ l, m.gid ≠ g := by
  constructor
  · intro h m hm
    obtain ⟨j, hj, rfl⟩ := List.getElem_of_mem hm
    exact atO_none l g _ _ h j (Nat.zero_le _) (by omega) hj
  · intro h
    cases q : mailO l g with
    | none => rfl
    | some k =>
      obtain ⟨h1, h2, _⟩ := mailO_some q
      exact (h _ (List.getElem_mem h1) h2).elim
theorem mailO_at {l : List Mail} {k : Nat} (hk : k < l.length) (h : ∀ j, (hj : j < k) → (l[j]'(by omega)).gid ≠ (l[k]).gid) : mailO l (l[k]).gid = some k := by
  cases q : mailO l (l[k]).gid with
  | none => exact (mailO_none.1 q _ (List.getElem_mem hk) rfl).elim
  | some k' =>
    obtain ⟨h1, h2, h3⟩ := mailO_some q
    rcases Nat.lt_trichotomy k' k with c | c | c
    · exact (h k' c h2).elim
    · rw [c]
    · exact (h3 k c rfl).elim
/-- a right box -/
structure Good (b : Box) : Prop where
  gid : 1 ≤ b.gid ∧ b.gid ≤ 9999
  name : nameOk b.name = true
  st : stampOk b.time b.who = true
  next : 1 ≤ b.next ∧ b.next ≤ 10000
  len : b.mails.length ≤ 10
  gone : Asc b.gone
  goneR : ∀ g ∈ b.gone, 1 ≤ g ∧ g ≤ 9999
  goneL : b.gone.length ≤ 40
  mail : ∀ m ∈ b.mails, mailOk m = true ∧ m.uid < b.next ∧ ¬ m.gid ∈ b.gone
  uids : b.mails.Pairwise (fun a c => a.uid < c.uid)
  gids : b.mails.Pairwise (fun a c => a.gid ≠ c.gid)
theorem step_asc {l : List Int} (h : ∀ j (hj : j + 1 < l.length), l[j] < l[j + 1]) : Asc l := by
  have hn : ∀ j (hj : j < l.length), ∀ i (hi : i < j), l[i]'(by omega) < l[j] := by
    intro j
    induction j with
    | zero => intro _ i hi; omega
    | succ j ih =>
      intro hj i hi
      by_cases e : i = j
      · subst e; exact h i hj
      · exact Int.lt_trans (ih (by omega) i (by omega)) (h j hj)
  exact List.pairwise_iff_getElem.2 fun i j hi hj hij => hn j hj i hij
theorem gidsOk_iff {l : List Int} {most : Int} : gidsOk l most = true ↔ Asc l ∧ (∀ g ∈ l, 1 ≤ g ∧ g ≤ 9999) ∧ (l.length : Int) ≤ most := by
  constructor
  · intro h
    exact ⟨gidsOk_asc h, (gidsOk_vars h).2, (gidsOk_vars h).1⟩
  · rintro ⟨h1, h2, h3⟩
    simp only [gidsOk, Bool.and_eq_true, decide_eq_true_eq, Option.isNone_iff_eq_none, firstN_isNone]
    refine ⟨fun j hj => ?_, h3⟩
    rw [badGid_at hj]
    have q1 := h2 _ (List.getElem_mem hj)
    simp only [Bool.or_eq_false_iff, Bool.not_eq_eq_eq_not, Bool.not_false, Bool.and_eq_false_imp, decide_eq_true_eq, decide_eq_false_iff_not]
    refine ⟨inR_iff.2 q1, fun h0 => ?_⟩
    have := List.pairwise_iff_getElem.1 h1 (j - 1) j (by omega) hj (by omega)
    omega
theorem boxOk_iff {b : Box} : boxOk b = true ↔ Good b := by
  constructor
  · intro h
    have hv := boxOk_vars h
    have hg := gidsOk_iff.1 (boxOk_gone h)
    simp only [boxOk, Bool.and_eq_true, decide_eq_true_eq, Option.isNone_iff_eq_none, firstN_isNone] at h
    obtain ⟨⟨⟨⟨⟨⟨h1, h2⟩, h3⟩, h4⟩, h5⟩, h6⟩, h7⟩ := h
    have key : ∀ i (hi : i < b.mails.length), mailOk b.mails[i] = true ∧ b.mails[i].uid < b.next ∧ (0 < i → b.mails[i - 1].uid < b.mails[i].uid) ∧ mailO b.mails b.mails[i].gid = some i ∧ ¬ b.mails[i].gid ∈ b.gone := by
      intro i hi
      have := h7 i hi
      rw [badMail_at hi] at this
      simp only [Bool.or_eq_false_iff, Bool.not_eq_eq_eq_not, Bool.not_false, Bool.and_eq_false_imp, decide_eq_true_eq, decide_eq_false_iff_not] at this
      obtain ⟨⟨⟨⟨q1, q2⟩, q3⟩, q4⟩, q5⟩ := this
      refine ⟨q1, by omega, fun h0 => by have := q3 h0; omega, ?_, q5⟩
      cases e : mailO b.mails b.mails[i].gid with
      | none => rw [e] at q4; simp only [intO] at q4; omega
      | some k => rw [e] at q4; simp only [intO] at q4; rw [show k = i by omega]
    refine ⟨inR_iff.1 h1, h2, h3, inR_iff.1 h4, h5, hg.1, hg.2.1, by omega, fun m hm => ?_, ?_, ?_⟩
    · obtain ⟨j, hj, rfl⟩ := List.getElem_of_mem hm
      have := key j hj
      exact ⟨this.1, this.2.1, this.2.2.2.2⟩
    · have ha : Asc (b.mails.map (·.uid)) := step_asc fun j hj => by
        simp only [List.length_map] at hj
        have := (key (j + 1) hj).2.2.1 (by omega)
        simpa using this
      exact List.pairwise_map.1 ha
    · refine List.pairwise_iff_getElem.2 fun i j hi hj hij e => ?_
      obtain ⟨_, _, h3⟩ := mailO_some (key j hj).2.2.2.1
      exact h3 i hij e
  · intro h
    simp only [boxOk, Bool.and_eq_true, decide_eq_true_eq, Option.isNone_iff_eq_none, firstN_isNone]
    refine ⟨⟨⟨⟨⟨⟨inR_iff.2 h.gid, h.name⟩, h.st⟩, inR_iff.2 h.next⟩, h.len⟩, gidsOk_iff.2 ⟨h.gone, h.goneR, by have := h.goneL; omega⟩⟩, fun i hi => ?_⟩
    rw [badMail_at hi]
    obtain ⟨q1, q2, q3⟩ := h.mail _ (List.getElem_mem hi)
    simp only [Bool.or_eq_false_iff, Bool.not_eq_eq_eq_not, Bool.not_false, Bool.and_eq_false_imp, decide_eq_true_eq, decide_eq_false_iff_not]
    refine ⟨⟨⟨⟨q1, by omega⟩, fun h0 => ?_⟩, ?_⟩, q3⟩
    · have := List.pairwise_iff_getElem.1 h.uids (i - 1) i (by omega) hi (by omega)
      omega
    · rw [mailO_at hi fun j hj => List.pairwise_iff_getElem.1 h.gids j i (by omega) hi hj]
      rfl
end Mx

namespace Mx
open Go
/-- a drawn box after i turns -/
structure Drawn (i : Nat) (b : Box) : Prop where
  good : Good b
  m : ∀ m ∈ b.mails, 10 ≤ m.gid ∧ m.gid ≤ 18
  g : ∀ g ∈ b.gone, 10 ≤ g ∧ g ≤ 18
  nx : b.next ≤ 4 + i
  gl : b.gone.length ≤ i
theorem Drawn.mono {i j : Nat} {b : Box} (h : Drawn i b) (hij : i ≤ j) : Drawn j b := ⟨h.good, h.m, h.g, by have := h.nx; omega, by have := h.gl; omega⟩
theorem Good.inB {b : Box} (h : Good b) : BoxIn b :=
  ⟨by have := h.len; omega, by have := h.goneL; omega, by have := (nameOk_len h.name).2; omega, fun m hm => by have := (mailOk_vars (h.mail m hm).1).2.2.1; omega⟩
theorem drawn_add {i : Nat} {b : Box} (h : Drawn i b) {g : Int} (hg : 10 ≤ g ∧ g ≤ 18) (f : Int) (x : List UInt8) (t w : Int) : Drawn (i + 1) (addMail b g f x t w).1 := by
  unfold addMail
  split
  · rename_i c
    refine ⟨boxOk_iff.1 c.2.2.2.2, fun m hm => ?_, h.g, by have := h.nx; simp only; omega, by have := h.gl; simp only; omega⟩
    rcases List.mem_append.1 hm with q | q
    · exact h.m m q
    · simp only [List.mem_singleton] at q; subst q; exact hg
  · exact h.mono (by omega)
theorem gput_len (l : List Int) (x : Int) : (gput l x).length ≤ l.length + 1 := by
  have h : ∀ l : List Int, (l.filter (fun y => decide (y < x))).length + (l.filter (fun y => decide (x < y))).length ≤ l.length := by
    intro l
    induction l with
    | nil => simp
    | cons a l ih =>
      simp only [List.filter_cons]
      by_cases c1 : a < x
      · have c2 : ¬ x < a := by omega
        simp [c1, c2]; omega
      · by_cases c2 : x < a
        · simp [c1, c2]; omega
        · simp [c1, c2]; omega
  have := h l
  simp only [gput, List.length_append, List.length_singleton]; omega
theorem sub_take_drop {α : Type} (l : List α) (k : Nat) : (l.take k ++ l.drop (k + 1)).Sublist l := by
  have e : l = l.take k ++ l.drop k := (List.take_append_drop k l).symm
  have h1 : (l.drop (k + 1)).Sublist (l.drop k) := by rw [← List.drop_drop]; exact List.drop_sublist 1 _
  have h2 := List.Sublist.append (List.Sublist.refl (l.take k)) h1
  rw [← e] at h2; exact h2
theorem good_take {b : Box} (h : Good b) {k : Nat} (hk : k < b.mails.length) (h40 : b.gone.length < 40) :
    Good { b with mails := b.mails.take k ++ b.mails.drop (k + 1), gone := gput b.gone (b.mails[k]).gid } := by
  have hs := sub_take_drop b.mails k
  have hq := h.mail _ (List.getElem_mem hk)
  have hv := (mailOk_vars hq.1).1
  have hgid : 1 ≤ (b.mails[k]).gid ∧ (b.mails[k]).gid ≤ 9999 := by
    have := hq.1
    simp only [mailOk, Bool.and_eq_true] at this
    exact inR_iff.1 this.1.1.1
  refine ⟨h.gid, h.name, h.st, h.next, by have := hs.length_le; have := h.len; simp only; omega, gput_asc h.gone, fun g hg => ?_, by have := gput_len b.gone (b.mails[k]).gid; simp only; omega, fun m hm => ?_, h.uids.sublist hs, h.gids.sublist hs⟩
  · rcases gput_mem.1 hg with q | q
    · rw [q]; exact hgid
    · exact h.goneR g q
  · have hm' := h.mail m (hs.subset hm)
    refine ⟨hm'.1, hm'.2.1, fun c => ?_⟩
    rcases gput_mem.1 c with q | q
    · rcases List.mem_append.1 hm with z | z
      · obtain ⟨j, hj, rfl⟩ := List.getElem_of_mem z
        rw [List.getElem_take] at q
        have hjk : j < k := by simp at hj; omega
        exact List.pairwise_iff_getElem.1 h.gids j k (by omega) hk hjk q
      · obtain ⟨j, hj, rfl⟩ := List.getElem_of_mem z
        rw [List.getElem_drop] at q
        exact List.pairwise_iff_getElem.1 h.gids k (k + 1 + j) hk (by simp at hj; omega) (by omega) q.symm
    · exact hm'.2.2 q
theorem drawn_take {i : Nat} {b : Box} (h : Drawn i b) {g : Int} (hg : 10 ≤ g ∧ g ≤ 18) : Drawn (i + 1) (takeOut b g).1 := by
  unfold takeOut
  split
  · exact h.mono (by omega)
  · rename_i k hk
    obtain ⟨hlt, he, _⟩ := mailO_some hk
    split
    · rename_i c
      have hs := sub_take_drop b.mails k
      have := good_take h.good hlt c.2
      rw [he] at this
      refine ⟨this, fun m hm => h.m m (hs.subset hm), fun x hx => ?_, by have := h.nx; simp only; omega, by have := gput_len b.gone g; have := h.gl; simp only; omega⟩
      rcases gput_mem.1 hx with q | q
      · rw [q]; exact hg
      · exact h.g x q
    · exact h.mono (by omega)
theorem flagsOk_iff {l : List Reg} : flagsOk l = true ↔ l.length = 3 ∧ ∀ r ∈ l, regOk r = true ∧ r.val ≤ 1 := by
  simp only [flagsOk, Bool.and_eq_true, decide_eq_true_eq, Option.isNone_iff_eq_none, firstN_isNone]
  constructor
  · rintro ⟨h1, h2⟩
    refine ⟨h2, fun r hr => ?_⟩
    obtain ⟨j, hj, rfl⟩ := List.getElem_of_mem hr
    have := h1 j hj
    rw [badFlag_at hj] at this
    simp only [Bool.or_eq_false_iff, Bool.not_eq_eq_eq_not, Bool.not_false, decide_eq_false_iff_not] at this
    exact ⟨this.1, by omega⟩
  · rintro ⟨h1, h2⟩
    refine ⟨fun j hj => ?_, h1⟩
    have := h2 _ (List.getElem_mem hj)
    rw [badFlag_at hj]
    simp only [Bool.or_eq_false_iff, Bool.not_eq_eq_eq_not, Bool.not_false, decide_eq_false_iff_not]
    exact ⟨this.1, by omega⟩
theorem setFlags_ok {l : List Reg} (h : flagsOk l = true) (n t w : Int) : flagsOk (setFlags l n t w) = true := by
  unfold setFlags
  split
  · obtain ⟨h1, h2⟩ := flagsOk_iff.1 h
    refine flagsOk_iff.2 ⟨by simpa using h1, fun r hr => ?_⟩
    obtain ⟨j, hj, rfl⟩ := List.getElem_of_mem hr
    rw [List.getElem_mapIdx]
    have hq := h2 _ (List.getElem_mem (l := l) (by simpa using hj))
    unfold setFlag
    split
    · exact hq
    · unfold putReg
      split
      · rename_i c
        exact ⟨c.2, (bitOf_range n j).2⟩
      · exact hq
  · exact h
theorem good_set {b : Box} (h : Good b) {k : Nat} (hk : k < b.mails.length) (fl : List Reg) (hf : flagsOk fl = true) : Good { b with mails := b.mails.set k { b.mails[k] with flags := fl } } := by
  have e1 : (b.mails.set k { b.mails[k] with flags := fl }).map (·.uid) = b.mails.map (·.uid) := by
    rw [List.map_set]; apply List.ext_getElem <;> simp [List.getElem_set]; intro i hi h2; subst h2; rfl
  have e2 : (b.mails.set k { b.mails[k] with flags := fl }).map (·.gid) = b.mails.map (·.gid) := by
    rw [List.map_set]; apply List.ext_getElem <;> simp [List.getElem_set]; intro i hi h2; subst h2; rfl
  refine ⟨h.gid, h.name, h.st, h.next, by simpa using h.len, h.gone, h.goneR, h.goneL, fun m hm => ?_, ?_, ?_⟩
  · obtain ⟨j, hj, rfl⟩ := List.getElem_of_mem hm
    simp only [List.length_set] at hj
    simp only [List.getElem_set]
    split
    · rename_i e; subst e
      have hq := h.mail _ (List.getElem_mem hk)
      refine ⟨?_, hq.2.1, hq.2.2⟩
      have := hq.1
      simp only [mailOk, Bool.and_eq_true] at this ⊢
      exact ⟨⟨this.1.1, hf⟩, this.2⟩
    · exact h.mail _ (List.getElem_mem hj)
  · have := List.pairwise_map.2 h.uids
    rw [← e1] at this
    exact List.pairwise_map.1 this
  · have := List.pairwise_map.2 h.gids
    rw [← e2] at this
    exact List.pairwise_map.1 this
theorem drawn_flag {i : Nat} {b : Box} (h : Drawn i b) (g n t w : Int) : Drawn (i + 1) (flagMail b g n t w).1 := by
  unfold flagMail
  split
  · exact h.mono (by omega)
  · rename_i k hk
    obtain ⟨hlt, he, _⟩ := mailO_some hk
    rw [List.getElem?_eq_getElem hlt]
    simp only
    split
    · have hm := h.good.mail _ (List.getElem_mem hlt)
      have hf : flagsOk (b.mails[k]).flags = true := by
        have := hm.1
        simp only [mailOk, Bool.and_eq_true] at this
        exact this.1.2
      refine ⟨good_set h.good hlt _ (setFlags_ok hf n t w), fun m hm => ?_, h.g, by have := h.nx; simp only; omega, by have := h.gl; simp only; omega⟩
      obtain ⟨j, hj, rfl⟩ := List.getElem_of_mem hm
      simp only [List.getElem_set]
      split
      · exact h.m (b.mails[k]) (List.getElem_mem hlt)
      · exact h.m _ (List.getElem_mem (by simpa using hj))
    · exact h.mono (by omega)
end Mx

namespace Mx
open Go
variable {M : Nat → Option Body}
structure BxS where
  i : Nat
  b : Box
  c : Bool
  u2 : Nat
  u4 : Nat
  v1 : Nat
  v2 : Nat
  ic : Nat
  q : Int
  n : Nat
def bxM (s : BxS) : T := if s.c then .row 14905 s.v1 0 s.b.mails.length else .nils 4
def bxG (s : BxS) : T := if s.c then .row 14906 s.v2 0 s.b.gone.length else .nils 1
def dbxO (R : List (List T)) (s : BxS) : List (Nat × Ob) := [curD R s.ic s.q, (2, ⟨s.u2, 7, true, true, [bzero]⟩), (4, ⟨s.u4, 7, true, true, [[I s.b.gid, S s.b.name, I s.b.time, I s.b.who, I s.b.next, bxM s, bxG s]]⟩)] ++
  if s.c then [(14905, ⟨s.v1, 4, true, false, s.b.mails.map encMail⟩), (14906, ⟨s.v2, 1, true, false, irow s.b.gone⟩)] else []
def dbxS (R : List (List T)) (s : BxS) : St := { t := [(0, .c (.ptr 0 0 0 0)), (2, .c (.ptr 2 s.u2 0 0)), (4, .c (.ptr 4 s.u4 0 0)), (5, .c (I s.i))], o := dbxO R s, n := s.n }
def dbxE (R : List (List T)) (s : BxS) : St := { t := [(0, .c (.ptr 0 0 0 0)), (2, .c (.ptr 2 s.u2 0 0)), (4, .c (.ptr 4 s.u4 0 0)), (5, .c (I s.i)), (21, .c (.bool false))], o := dbxO R s, n := s.n }
structure BxI (R : List (List T)) (s : BxS) : Prop where
  i : s.i ≤ 11
  b : Drawn s.i s.b
  c : s.ic ≤ R.length
  e : s.c = false → s.b.mails = [] ∧ s.b.gone = []
structure BxK (M : Nat → Option Body) : Prop where
  add : spec_AddMail.k M
  flag : spec_FlagMail.k M
  take : spec_TakeOut.k M
  below : spec_l01Below.k M
  text : spec_l05Text.k M
  pick : spec_l01Pick.k M
  stamp : spec_l03Stamp.k M
/-- the loop ends -/
theorem bx_end {R : List (List T)} (s : BxS) (k ic' x : Nat) (q' : Int) (h1 : run M 125 [.c (.ptr 0 0 0 0), .c (I 12)] [curD R s.ic s.q] = some (.c (I x), [curD R ic' q'])) (hx : ¬ s.i < x) :
    ∃ n', exC (run M) k spec_l06Box.l0 (dbxS R s) = some (.exit 0, dbxE R { s with ic := ic', q := q', n := n' }) := by
  obtain ⟨i, b, c, u2, u4, v1, v2, ic, q, n⟩ := s
  simp only at h1 hx
  have e7 : (b.mails.map encMail).length = b.mails.length := by simp
  have e8 := irow_length b.gone
  simp only [dbxS, dbxE, dbxO, bxM, bxG]
  generalize b.mails.map encMail = rm at *
  generalize irow b.gone = rg at *
  cases c
  · simp (maxSteps := 1000000) [spec_l06Box.l0, List.range_succ, bs_get, setAt, h1, hx]
  · simp (maxSteps := 1000000) [spec_l06Box.l0, List.range_succ, bs_get, setAt, h1, hx]
set_option maxHeartbeats 4000000 in
theorem bx_add {R : List (List T)} (s : BxS) (k ic1 ic2 ic3 ic4 ic5 ic6 x g t w k5 f : Nat) (tx : List UInt8) (q1 q2 q3 q4 q5 q6 : Int) (b' : Box) (ok : Bool) (hi : s.i ≤ 11) (hg : g < 9)
    (he : s.c = false → s.b.mails = [] ∧ s.b.gone = [])
    (h1 : run M 125 [.c (.ptr 0 0 0 0), .c (I 12)] [curD R s.ic s.q] = some (.c (I x), [curD R ic1 q1])) (hx : s.i < x)
    (h2 : run M 125 [.c (.ptr 0 0 0 0), .c (I 9)] [curD R ic1 q1] = some (.c (I g), [curD R ic2 q2]))
    (h3 : run M 232 [.c (.ptr 0 0 0 0)] [curD R ic2 q2] = some (.a [I t, I w], [curD R ic3 q3]))
    (h4 : run M 125 [.c (.ptr 0 0 0 0), .c (I 5)] [curD R ic3 q3] = some (.c (I k5), [curD R ic4 q4]))
    (hk : k5 = 0 ∨ k5 = 1 ∨ k5 = 2)
    (h5 : run M 125 [.c (.ptr 0 0 0 0), .c (I 8)] [curD R ic4 q4] = some (.c (I f), [curD R ic5 q5]))
    (h6 : run M 174 [.c (.ptr 0 0 0 0)] [curD R ic5 q5] = some (.c (S tx), [curD R ic6 q6]))
    (h7 : run M 81 [.a (encBox s.b), .c (I (10 + (g : Int))), .c (I f), .c (S tx), .a [I t, I w]] [] = some (.tup [.a (encBoxO b'), .c (.bool ok)], [])) :
    ∃ v1' v2' n', exC (run M) k spec_l06Box.l0 (dbxS R s) = some (.normal, dbxS R ⟨s.i + 1, b', true, s.u2, s.u4, v1', v2', ic6, q6, n'⟩) := by
  have ez : ((0 : Nat) : Int) = 0 := rfl
  obtain ⟨i, b, c, u2, u4, v1, v2, ic, q, n⟩ := s
  simp only at h1 hx he hi
  have e3 : IntKind.i64.wrap ((i : Int) + 1) = (i : Int) + 1 := wrap_i64 (by omega) (by omega)
  have e4 : IntKind.i64.wrap (10 + (g : Int)) = 10 + (g : Int) := wrap_i64 (by omega) (by omega)
  have e7 : (b.mails.map encMail).length = b.mails.length := by simp
  have e8 := irow_length b.gone
  have e9 : (b'.mails.map encMail).length = b'.mails.length := by simp
  have e10 := irow_length b'.gone
  have e11 : (b.mails.map encMail).take b.mails.length = b.mails.map encMail := List.take_of_length_le (by omega)
  have e12 : (irow b.gone).take b.gone.length = irow b.gone := List.take_of_length_le (by omega)
  simp only [dbxS, dbxO, bxM, bxG]
  cases c
  · obtain ⟨em, eg⟩ := he rfl
    simp only [encBox, encBoxO, mails, ints, em, eg, List.map_nil] at h7
    simp only [irow_nil] at h7
    generalize b'.mails.map encMail = rm' at *
    generalize irow b'.gone = rg' at *
    rcases hk with rfl | rfl | rfl
    · simp only [Int.cast_ofNat_Int, ez] at h4
      simp (maxSteps := 1000000) [spec_l06Box.l0, List.range_succ, bs_get, setAt, h1, h2, h3, h4, h5, h6, h7, hx, e3, e4, e7, e8, e9, e10, e11, e12]
    · simp only [Int.cast_ofNat_Int, ez] at h4
      simp (maxSteps := 1000000) [spec_l06Box.l0, List.range_succ, bs_get, setAt, h1, h2, h3, h4, h5, h6, h7, hx, e3, e4, e7, e8, e9, e10, e11, e12]
    · simp only [Int.cast_ofNat_Int, ez] at h4
      simp (maxSteps := 1000000) [spec_l06Box.l0, List.range_succ, bs_get, setAt, h1, h2, h3, h4, h5, h6, h7, hx, e3, e4, e7, e8, e9, e10, e11, e12]
  · simp only [encBox, encBoxO, mails, ints] at h7
    generalize b'.mails.map encMail = rm' at *
    generalize irow b'.gone = rg' at *
    generalize b.mails.map encMail = rm at *
    generalize irow b.gone = rg at *
    rcases hk with rfl | rfl | rfl
    · simp only [Int.cast_ofNat_Int, ez] at h4
      simp (maxSteps := 1000000) [spec_l06Box.l0, List.range_succ, bs_get, setAt, h1, h2, h3, h4, h5, h6, h7, hx, e3, e4, e7, e8, e9, e10, e11, e12]
    · simp only [Int.cast_ofNat_Int, ez] at h4
      simp (maxSteps := 1000000) [spec_l06Box.l0, List.range_succ, bs_get, setAt, h1, h2, h3, h4, h5, h6, h7, hx, e3, e4, e7, e8, e9, e10, e11, e12]
    · simp only [Int.cast_ofNat_Int, ez] at h4
      simp (maxSteps := 1000000) [spec_l06Box.l0, List.range_succ, bs_get, setAt, h1, h2, h3, h4, h5, h6, h7, hx, e3, e4, e7, e8, e9, e10, e11, e12]
set_option maxHeartbeats 4000000 in
theorem bx_flag {R : List (List T)} (s : BxS) (k ic1 ic2 ic3 ic4 ic5 ic6 x g t w k5 f : Nat) (tx : List UInt8) (q1 q2 q3 q4 q5 q6 : Int) (b' : Box) (ok : Bool) (hi : s.i ≤ 11) (hg : g < 9)
    (he : s.c = false → s.b.mails = [] ∧ s.b.gone = [])
    (h1 : run M 125 [.c (.ptr 0 0 0 0), .c (I 12)] [curD R s.ic s.q] = some (.c (I x), [curD R ic1 q1])) (hx : s.i < x)
    (h2 : run M 125 [.c (.ptr 0 0 0 0), .c (I 9)] [curD R ic1 q1] = some (.c (I g), [curD R ic2 q2]))
    (h3 : run M 232 [.c (.ptr 0 0 0 0)] [curD R ic2 q2] = some (.a [I t, I w], [curD R ic3 q3]))
    (h4 : run M 125 [.c (.ptr 0 0 0 0), .c (I 5)] [curD R ic3 q3] = some (.c (I k5), [curD R ic4 q4]))
    (hk : k5 = 3)
    (h5 : run M 125 [.c (.ptr 0 0 0 0), .c (I 8)] [curD R ic4 q4] = some (.c (I f), [curD R ic5 q5]))
    (h7 : run M 84 [.a (encBox s.b), .c (I (10 + (g : Int))), .c (I f), .a [I t, I w]] [] = some (.tup [.a (encBoxO b'), .c (.bool ok)], [])) :
    ∃ v1' v2' n', exC (run M) k spec_l06Box.l0 (dbxS R s) = some (.normal, dbxS R ⟨s.i + 1, b', true, s.u2, s.u4, v1', v2', ic5, q5, n'⟩) := by
  subst hk
  simp only [Int.cast_ofNat_Int] at h4
  obtain ⟨i, b, c, u2, u4, v1, v2, ic, q, n⟩ := s
  simp only at h1 hx he hi
  have e3 : IntKind.i64.wrap ((i : Int) + 1) = (i : Int) + 1 := wrap_i64 (by omega) (by omega)
  have e4 : IntKind.i64.wrap (10 + (g : Int)) = 10 + (g : Int) := wrap_i64 (by omega) (by omega)
  have e7 : (b.mails.map encMail).length = b.mails.length := by simp
  have e8 := irow_length b.gone
  have e9 : (b'.mails.map encMail).length = b'.mails.length := by simp
  have e10 := irow_length b'.gone
  have e11 : (b.mails.map encMail).take b.mails.length = b.mails.map encMail := List.take_of_length_le (by omega)
  have e12 : (irow b.gone).take b.gone.length = irow b.gone := List.take_of_length_le (by omega)
  simp only [dbxS, dbxO, bxM, bxG]
  cases c
  · obtain ⟨em, eg⟩ := he rfl
    simp only [encBox, encBoxO, mails, ints, em, eg, List.map_nil] at h7
    simp only [irow_nil] at h7
    generalize b'.mails.map encMail = rm' at *
    generalize irow b'.gone = rg' at *
    simp (maxSteps := 1000000) [spec_l06Box.l0, List.range_succ, bs_get, setAt, h1, h2, h3, h4, h5, h7, hx, e3, e4, e7, e8, e9, e10, e11, e12]
  · simp only [encBox, encBoxO, mails, ints] at h7
    generalize b'.mails.map encMail = rm' at *
    generalize irow b'.gone = rg' at *
    generalize b.mails.map encMail = rm at *
    generalize irow b.gone = rg at *
    simp (maxSteps := 1000000) [spec_l06Box.l0, List.range_succ, bs_get, setAt, h1, h2, h3, h4, h5, h7, hx, e3, e4, e7, e8, e9, e10, e11, e12]
set_option maxHeartbeats 4000000 in
theorem bx_take {R : List (List T)} (s : BxS) (k ic1 ic2 ic3 ic4 ic5 ic6 x g t w k5 f : Nat) (tx : List UInt8) (q1 q2 q3 q4 q5 q6 : Int) (b' : Box) (ok : Bool) (hi : s.i ≤ 11) (hg : g < 9)
    (he : s.c = false → s.b.mails = [] ∧ s.b.gone = [])
    (h1 : run M 125 [.c (.ptr 0 0 0 0), .c (I 12)] [curD R s.ic s.q] = some (.c (I x), [curD R ic1 q1])) (hx : s.i < x)
    (h2 : run M 125 [.c (.ptr 0 0 0 0), .c (I 9)] [curD R ic1 q1] = some (.c (I g), [curD R ic2 q2]))
    (h3 : run M 232 [.c (.ptr 0 0 0 0)] [curD R ic2 q2] = some (.a [I t, I w], [curD R ic3 q3]))
    (h4 : run M 125 [.c (.ptr 0 0 0 0), .c (I 5)] [curD R ic3 q3] = some (.c (I k5), [curD R ic4 q4]))
    (hk : 3 < k5)
    (h7 : run M 86 [.a (encBox s.b), .c (I (10 + (g : Int)))] [] = some (.tup [.a (encBoxO b'), .c (.bool ok)], [])) :
    ∃ v1' v2' n', exC (run M) k spec_l06Box.l0 (dbxS R s) = some (.normal, dbxS R ⟨s.i + 1, b', true, s.u2, s.u4, v1', v2', ic4, q4, n'⟩) := by
  have d0 : ¬ k5 = 0 := by omega
  have d1 : ¬ k5 = 1 := by omega
  have d2 : ¬ k5 = 2 := by omega
  have d3 : ¬ k5 = 3 := by omega
  have f0 : ¬ (k5 : Int) = 0 := by omega
  have f1 : ¬ (k5 : Int) = 1 := by omega
  have f2 : ¬ (k5 : Int) = 2 := by omega
  have f3 : ¬ (k5 : Int) = 3 := by omega
  obtain ⟨i, b, c, u2, u4, v1, v2, ic, q, n⟩ := s
  simp only at h1 hx he hi
  have e3 : IntKind.i64.wrap ((i : Int) + 1) = (i : Int) + 1 := wrap_i64 (by omega) (by omega)
  have e4 : IntKind.i64.wrap (10 + (g : Int)) = 10 + (g : Int) := wrap_i64 (by omega) (by omega)
  have e7 : (b.mails.map encMail).length = b.mails.length := by simp
  have e8 := irow_length b.gone
  have e9 : (b'.mails.map encMail).length = b'.mails.length := by simp
  have e10 := irow_length b'.gone
  have e11 : (b.mails.map encMail).take b.mails.length = b.mails.map encMail := List.take_of_length_le (by omega)
  have e12 : (irow b.gone).take b.gone.length = irow b.gone := List.take_of_length_le (by omega)
  simp only [dbxS, dbxO, bxM, bxG]
  cases c
  · obtain ⟨em, eg⟩ := he rfl
    simp only [encBox, encBoxO, mails, ints, em, eg, List.map_nil] at h7
    simp only [irow_nil] at h7
    generalize b'.mails.map encMail = rm' at *
    generalize irow b'.gone = rg' at *
    simp (maxSteps := 1000000) [spec_l06Box.l0, List.range_succ, bs_get, setAt, h1, h2, h3, h4, h7, d0, d1, d2, d3, f0, f1, f2, f3, hx, e3, e4, e7, e8, e9, e10, e11, e12]
  · simp only [encBox, encBoxO, mails, ints] at h7
    generalize b'.mails.map encMail = rm' at *
    generalize irow b'.gone = rg' at *
    generalize b.mails.map encMail = rm at *
    generalize irow b.gone = rg at *
    simp (maxSteps := 1000000) [spec_l06Box.l0, List.range_succ, bs_get, setAt, h1, h2, h3, h4, h7, d0, d1, d2, d3, f0, f1, f2, f3, hx, e3, e4, e7, e8, e9, e10, e11, e12]
end Mx

namespace Mx
open Go
variable {M : Nat → Option Body}
theorem bx_turn (K : BxK M) {R : List (List T)} (hR : Bytes R) (k : Nat) (s : BxS) (hs : BxI R s) :
    (∃ s', exC (run M) k spec_l06Box.l0 (dbxS R s) = some (.normal, dbxS R s') ∧ BxI R s' ∧ 12 - s'.i < 12 - s.i) ∨
      (∃ r, exC (run M) k spec_l06Box.l0 (dbxS R s) = some r ∧ r.1 ≠ .normal ∧ ∃ s', r = (.exit 0, dbxE R s') ∧ BxI R s') := by
  have hb := hs.b.good.inB
  have hi := hs.i
  obtain ⟨x, ic1, q1, hx, hc1, h1⟩ := spec_l01Below.says K.below hR s.ic s.q hs.c 12 (by omega) (by omega)
  by_cases hlt : s.i < x
  · left
    obtain ⟨g, ic2, q2, hg, hc2, h2⟩ := spec_l01Below.says K.below hR ic1 q1 hc1 9 (by omega) (by omega)
    obtain ⟨t, w, ic3, q3, ht, hw1, hw2, hc3, h3⟩ := spec_l03Stamp.says K.stamp hR ic2 q2 hc2
    obtain ⟨k5, ic4, q4, hk5, hc4, h4⟩ := spec_l01Below.says K.below hR ic3 q3 hc3 5 (by omega) (by omega)
    have hgr : (10 : Int) ≤ 10 + (g : Int) ∧ 10 + (g : Int) ≤ 18 := ⟨by omega, by omega⟩
    by_cases c1 : k5 ≤ 2
    · obtain ⟨f, ic5, q5, hf, hc5, h5⟩ := spec_l01Below.says K.below hR ic4 q4 hc4 8 (by omega) (by omega)
      obtain ⟨tx, ic6, q6, htx, hc6, h6⟩ := spec_l05Text.says K.text hR ic5 q5 hc5
      have h7 := spec_AddMail.says K.add s.b hb (10 + (g : Int)) f tx t w
      obtain ⟨v1', v2', n', hh⟩ := bx_add s k ic1 ic2 ic3 ic4 ic5 ic6 x g t w k5 f tx q1 q2 q3 q4 q5 q6 _ _ hi hg hs.e h1 hlt h2 h3 h4 (by omega) h5 h6 h7
      exact ⟨_, hh, ⟨by simp only; omega, drawn_add hs.b hgr _ _ _ _, hc6, fun h => by cases h⟩, by simp only; omega⟩
    · by_cases c2 : k5 = 3
      · obtain ⟨f, ic5, q5, hf, hc5, h5⟩ := spec_l01Below.says K.below hR ic4 q4 hc4 8 (by omega) (by omega)
        have h7 := spec_FlagMail.says K.flag s.b hb (10 + (g : Int)) f t w
        obtain ⟨v1', v2', n', hh⟩ := bx_flag s k ic1 ic2 ic3 ic4 ic5 0 x g t w k5 f [] q1 q2 q3 q4 q5 0 _ _ hi hg hs.e h1 hlt h2 h3 h4 c2 h5 h7
        exact ⟨_, hh, ⟨by simp only; omega, drawn_flag hs.b _ _ _ _, hc5, fun h => by cases h⟩, by simp only; omega⟩
      · have h7 := spec_TakeOut.says K.take s.b hb (10 + (g : Int))
        obtain ⟨v1', v2', n', hh⟩ := bx_take s k ic1 ic2 ic3 ic4 0 0 x g t w k5 0 [] q1 q2 q3 q4 0 0 _ _ hi hg hs.e h1 hlt h2 h3 h4 (by omega) h7
        exact ⟨_, hh, ⟨by simp only; omega, drawn_take hs.b hgr, hc4, fun h => by cases h⟩, by simp only; omega⟩
  · right
    obtain ⟨n', hh⟩ := bx_end s k ic1 x q1 h1 hlt
    exact ⟨_, hh, by simp, _, rfl, ⟨hs.i, hs.b, hc1, hs.e⟩⟩
def names3 : List (List UInt8) := [[105, 110, 98, 111, 120], [119, 111, 114, 107], [111, 108, 100, 57]]
set_option maxHeartbeats 2000000 in
theorem spec_l06Box.says (h : spec_l06Box.k M) {R : List (List T)} (hR : Bytes R) (i : Nat) (q : Int) (hi : i ≤ R.length) :
    ∃ (b : Box) (i' : Nat) (q' : Int), Drawn 11 b ∧ i' ≤ R.length ∧ run M 154 [.c (.ptr 0 0 0 0)] [curD R i q] = some (.a (encBoxO b), [curD R i' q']) := by
  obtain ⟨h0, ka, kf, kt, kb, kx, kp, ks⟩ := h
  obtain ⟨t, w, ic1, q1, ht, hw1, hw2, hc1, h1⟩ := spec_l03Stamp.says ks hR i q hi
  obtain ⟨nm, ic2, q2, hnm, hc2, h2⟩ := spec_l01Pick.says kp hR ic1 q1 hc1 names3 (by decide) (by decide)
  obtain ⟨y, ic3, q3, hy, hc3, h3⟩ := spec_l01Below.says kb hR ic2 q2 hc2 4 (by omega) (by omega)
  have hname : nameOk nm = true := by
    have : ∀ s ∈ names3, nameOk s = true := by decide
    exact this nm hnm
  have e1 : IntKind.i64.wrap (1 + (y : Int)) = 1 + (y : Int) := wrap_i64 (by omega) (by omega)
  have hG : Drawn 0 { gid := 7, name := nm, time := t, who := w, next := 1 + (y : Int), mails := [], gone := [] } := by
    refine ⟨⟨by simp only; omega, hname, ?_, by simp only; omega, by simp, List.Pairwise.nil, by simp, by simp, by simp, List.Pairwise.nil, List.Pairwise.nil⟩, by simp, by simp, by simp only; omega, by simp⟩
    simp only [stampOk, Bool.and_eq_true]
    exact ⟨inR_iff.2 ⟨by omega, by omega⟩, inR_iff.2 ⟨by omega, by omega⟩⟩
  obtain ⟨r, hr, ⟨⟨j, b, c, u2, u4, v1, v2, ic, q', n⟩, rfl, hI⟩⟩ := loop_ex (f := exC (run M) 13 spec_l06Box.l0) (dbxS R) (BxI R) (fun s => 12 - s.i) (fun r => ∃ s', r = (.exit 0, dbxE R s') ∧ BxI R s')
    (fun s hs => bx_turn ⟨ka, kf, kt, kb, kx, kp, ks⟩ hR 13 s hs) 13 ⟨0, { gid := 7, name := nm, time := t, who := w, next := 1 + (y : Int), mails := [], gone := [] }, false, 2000000, 2000208, 0, 0, ic3, q3, 2000256⟩ ⟨by simp, hG, hc3, fun _ => ⟨rfl, rfl⟩⟩ (by simp)
  obtain ⟨hji, hD, hc, hE⟩ := hI
  simp only at hji hD hc hE
  refine ⟨b, ic, q', hD.mono hji, hc, run_code (b := spec_l06Box.m) h0 ⟨13, ?_⟩⟩
  simp only [names3, List.map_cons, List.map_nil, S, bs] at h2
  simp only [Int.cast_ofNat_Int] at h3
  have e7 : (b.mails.map encMail).length = b.mails.length := by simp
  have e8 := irow_length b.gone
  have e11 : (b.mails.map encMail).take b.mails.length = b.mails.map encMail := List.take_of_length_le (by omega)
  have e12 : (irow b.gone).take b.gone.length = irow b.gone := List.take_of_length_le (by omega)
  simp only [dbxS, dbxE, dbxO, bxM, bxG] at hr
  cases c
  · obtain ⟨em, eg⟩ := hE rfl
    simp at hr
    simp only [encBoxO, em, eg, List.map_nil, irow_nil]
    simp (maxSteps := 1000000) [exB, spec_l06Box.m, spec_l06Box.b, List.range_succ, bs_get, setAt, hr, h1, h2, h3, e1]
  · simp at hr
    simp only [encBoxO]
    generalize b.mails.map encMail = rm at *
    generalize irow b.gone = rg at *
    simp (maxSteps := 1000000) [exB, spec_l06Box.m, spec_l06Box.b, List.range_succ, bs_get, setAt, hr, h1, h2, h3, e1, e7, e8, e11, e12]
end Mx

namespace Mx
open Go
variable {M : Nat → Option Body}
theorem spec_l01PickInt.says (h : spec_l01PickInt.k M) {R : List (List T)} (hR : Bytes R) (i : Nat) (q : Int) (hi : i ≤ R.length) (ns : List Int) (h0 : 0 < ns.length) (hn : ns.length ≤ 256) :
    ∃ (s : Int) (i' : Nat) (q' : Int), s ∈ ns ∧ i' ≤ R.length ∧ run M 179 [.c (.ptr 0 0 0 0), .c (.sl false 1 (ns.map fun s => [I s]))] [curD R i q] = some (.c (I s), [curD R i' q']) := by
  obtain ⟨hm, k1⟩ := h
  obtain ⟨x, i1, q1, hx, hi1, h1⟩ := spec_l01Below.says k1 hR i q hi ns.length h0 (by omega)
  refine ⟨ns[x], i1, q1, List.getElem_mem hx, hi1, ?_⟩
  refine run_code (b := spec_l01PickInt.m) hm ⟨0, ?_⟩
  simp (maxSteps := 1000000) [exB, spec_l01PickInt.m, spec_l01PickInt.b, List.range_succ, bs_get, setAt, h1, hx]
theorem spec_l01Once.says (h : spec_l01Once.k M) {R : List (List T)} (hR : Bytes R) (i : Nat) (q : Int) (hi : i ≤ R.length) (n : Nat) (h0 : 0 < n) (hn : n ≤ 256) :
    ∃ (s : Bool) (i' : Nat) (q' : Int), i' ≤ R.length ∧ run M 175 [.c (.ptr 0 0 0 0), .c (I n)] [curD R i q] = some (.c (.bool s), [curD R i' q']) := by
  obtain ⟨hm, k1⟩ := h
  obtain ⟨x, i1, q1, hx, hi1, h1⟩ := spec_l01Below.says k1 hR i q hi n h0 (by omega)
  refine ⟨decide (x = 0), i1, q1, hi1, ?_⟩
  refine run_code (b := spec_l01Once.m) hm ⟨0, ?_⟩
  simp (maxSteps := 1000000) [exB, spec_l01Once.m, spec_l01Once.b, List.range_succ, bs_get, setAt, h1]
theorem spec_l03Any.says (h : spec_l03Any.k M) {R : List (List T)} (hR : Bytes R) (i : Nat) (q : Int) (hi : i ≤ R.length) :
    ∃ (t w : Int) (i' : Nat) (q' : Int), i' ≤ R.length ∧ run M 177 [.c (.ptr 0 0 0 0)] [curD R i q] = some (.a [I t, I w], [curD R i' q']) := by
  obtain ⟨hm, kb, kp, ks⟩ := h
  obtain ⟨t, w, i1, q1, ht, hw1, hw2, hi1, h1⟩ := spec_l03Stamp.says ks hR i q hi
  obtain ⟨x, i2, q2, hx, hi2, h2⟩ := spec_l01Below.says kb hR i1 q1 hi1 8 (by omega) (by omega)
  simp only [Int.cast_ofNat_Int] at h2
  by_cases c0 : x = 0
  · obtain ⟨s, i3, q3, hs, hi3, h3⟩ := spec_l01PickInt.says kp hR i2 q2 hi2 [-1, 100000, 100001] (by decide) (by decide)
    simp only [List.map_cons, List.map_nil] at h3
    have c1 : (x : Int) = 0 := by omega
    refine ⟨s, w, i3, q3, hi3, run_code (b := spec_l03Any.m) hm ⟨0, ?_⟩⟩
    simp (maxSteps := 1000000) [exB, spec_l03Any.m, spec_l03Any.b, List.range_succ, bs_get, setAt, h1, h2, h3, c0, c1]
  · have d0 : ¬ (x : Int) = 0 := by omega
    by_cases c1 : x = 1
    · obtain ⟨s, i3, q3, hs, hi3, h3⟩ := spec_l01PickInt.says kp hR i2 q2 hi2 [-1, 0, 3] (by decide) (by decide)
      simp only [List.map_cons, List.map_nil] at h3
      have d1 : (x : Int) = 1 := by omega
      refine ⟨t, s, i3, q3, hi3, run_code (b := spec_l03Any.m) hm ⟨0, ?_⟩⟩
      simp (maxSteps := 1000000) [exB, spec_l03Any.m, spec_l03Any.b, List.range_succ, bs_get, setAt, h1, h2, h3, c0, c1, d0, d1]
    · have d1 : ¬ (x : Int) = 1 := by omega
      refine ⟨t, w, i2, q2, hi2, run_code (b := spec_l03Any.m) hm ⟨0, ?_⟩⟩
      simp (maxSteps := 1000000) [exB, spec_l03Any.m, spec_l03Any.b, List.range_succ, bs_get, setAt, h1, h2, c0, c1, d0, d1]
theorem spec_l03Reg.says (h : spec_l03Reg.k M) {R : List (List T)} (hR : Bytes R) (i : Nat) (q : Int) (hi : i ≤ R.length) :
    ∃ (r : Reg) (i' : Nat) (q' : Int), i' ≤ R.length ∧ run M 299 [.c (.ptr 0 0 0 0)] [curD R i q] = some (.a (encReg r), [curD R i' q']) := by
  obtain ⟨hm, ka, kp⟩ := h
  obtain ⟨t, w, i1, q1, hi1, h1⟩ := spec_l03Any.says ka hR i q hi
  obtain ⟨s, i2, q2, hs, hi2, h2⟩ := spec_l01PickInt.says kp hR i1 q1 hi1 [0, 1, 1, 7, -1, 1000000001] (by decide) (by decide)
  simp only [List.map_cons, List.map_nil] at h2
  refine ⟨⟨s, t, w⟩, i2, q2, hi2, run_code (b := spec_l03Reg.m) hm ⟨0, ?_⟩⟩
  simp (maxSteps := 1000000) [exB, spec_l03Reg.m, spec_l03Reg.b, List.range_succ, bs_get, setAt, h1, h2]
end Mx

namespace Mx
open Go
variable {M : Nat → Option Body}
structure FgS where
  i : Nat
  l : List Reg
  v : Nat
  ic : Nat
  q : Int
  n : Nat
def fgO (R : List (List T)) (s : FgS) : List (Nat × Ob) := [curD R s.ic s.q, (6, ⟨s.v, 3, true, false, s.l.map encReg⟩)]
def fgS (R : List (List T)) (s : FgS) : St := { t := [(0, .c (.ptr 0 0 0 0)), (3, .c (.row 6 s.v 0 s.i)), (4, .c (I s.i))], o := fgO R s, n := s.n }
def fgE (R : List (List T)) (s : FgS) : St := { t := [(0, .c (.ptr 0 0 0 0)), (3, .c (.row 6 s.v 0 s.i)), (4, .c (I s.i)), (8, .c (.bool false))], o := fgO R s, n := s.n }
structure FgI (R : List (List T)) (s : FgS) : Prop where
  i : s.i ≤ 3
  l : s.l.length = s.i
  c : s.ic ≤ R.length
theorem fg_turn (kb : spec_l01Below.k M) (ks : spec_l03Stamp.k M) {R : List (List T)} (hR : Bytes R) (k : Nat) (s : FgS) (hs : FgI R s) :
    (∃ s', exC (run M) k spec_l04Flags.l0 (fgS R s) = some (.normal, fgS R s') ∧ FgI R s' ∧ 3 - s'.i < 3 - s.i) ∨
      (∃ r, exC (run M) k spec_l04Flags.l0 (fgS R s) = some r ∧ r.1 ≠ .normal ∧ ∃ s', r = (.exit 0, fgE R s') ∧ s'.i = 3 ∧ FgI R s') := by
  obtain ⟨i, l, v, ic, q, n⟩ := s
  obtain ⟨hi, hl, hc⟩ := hs
  simp only at hi hl hc
  obtain ⟨t, w, ic1, q1, ht, hw1, hw2, hc1, h1⟩ := spec_l03Stamp.says ks hR ic q hc
  obtain ⟨x, ic2, q2, hx, hc2, h2⟩ := spec_l01Below.says kb hR ic1 q1 hc1 2 (by omega) (by omega)
  simp only [Int.cast_ofNat_Int] at h2
  by_cases hlt : i < 3
  · left
    have hlt2 : (i : Int) < 3 := by omega
    have e3 : IntKind.i64.wrap ((i : Int) + 1) = (i : Int) + 1 := wrap_i64 (by omega) (by omega)
    have e5 : i + 1 ≤ 4294967296 := by omega
    have e6 : (l ++ [(⟨x, t, w⟩ : Reg)]).map encReg = l.map encReg ++ [[I x, I t, I w]] := by simp
    have e7 : (l.map encReg).length = i := by simp [hl]
    have e8 : (l.map encReg).take i = l.map encReg := List.take_of_length_le (by omega)
    have hh : ∃ v' n', exC (run M) k spec_l04Flags.l0 (fgS R ⟨i, l, v, ic, q, n⟩) = some (.normal, fgS R ⟨i + 1, l ++ [⟨x, t, w⟩], v', ic2, q2, n'⟩) := by
      simp only [fgS, fgO, e6]
      generalize l.map encReg = rl at *
      simp (maxSteps := 1000000) [spec_l04Flags.l0, List.range_succ, bs_get, setAt, h1, h2, hlt, hlt2, e3, e5, e7, e8]
    obtain ⟨v', n', hh⟩ := hh
    exact ⟨_, hh, ⟨by simp only; omega, by simp [hl], hc2⟩, by simp only; omega⟩
  · right
    have hlt2 : ¬ (i : Int) < 3 := by omega
    have hh : ∃ n', exC (run M) k spec_l04Flags.l0 (fgS R ⟨i, l, v, ic, q, n⟩) = some (.exit 0, fgE R ⟨i, l, v, ic, q, n'⟩) := by
      simp only [fgS, fgE, fgO]
      simp (maxSteps := 1000000) [spec_l04Flags.l0, List.range_succ, bs_get, setAt, hlt, hlt2]
    obtain ⟨n', hh⟩ := hh
    exact ⟨_, hh, by simp, _, rfl, by simp only; omega, ⟨hi, hl, hc⟩⟩
theorem spec_l04Flags.says (h : spec_l04Flags.k M) {R : List (List T)} (hR : Bytes R) (i : Nat) (q : Int) (hi : i ≤ R.length) :
    ∃ (l : List Reg) (i' : Nat) (q' : Int), l.length = 3 ∧ i' ≤ R.length ∧ run M 298 [.c (.ptr 0 0 0 0)] [curD R i q] = some (.c (.sl true 3 (l.map encReg)), [curD R i' q']) := by
  obtain ⟨h0, k1, k2⟩ := h
  obtain ⟨r, hr, ⟨⟨j, l, v, ic', q', n⟩, rfl, hj, hI⟩⟩ := loop_ex (f := exC (run M) 4 spec_l04Flags.l0) (fgS R) (FgI R) (fun s => 3 - s.i) (fun r => ∃ s', r = (.exit 0, fgE R s') ∧ s'.i = 3 ∧ FgI R s')
    (fun s hs => fg_turn k1 k2 hR 4 s hs) 4 ⟨0, [], 2000016, i, q, 2000064⟩ ⟨by simp, by simp, hi⟩ (by simp)
  obtain ⟨_, hl, hc'⟩ := hI
  simp only at hj hl hc'
  refine ⟨l, ic', q', by omega, hc', run_code (b := spec_l04Flags.m) h0 ⟨4, ?_⟩⟩
  have e7 : (l.map encReg).length = j := by simp [hl]
  have e8 : (l.map encReg).take j = l.map encReg := List.take_of_length_le (by omega)
  simp only [fgS, fgE, fgO] at hr
  generalize l.map encReg = rl at *
  simp at hr
  simp (maxSteps := 1000000) [exB, spec_l04Flags.m, spec_l04Flags.b, List.range_succ, bs_get, setAt, hr, e7, e8]
end Mx

namespace Mx
open Go
variable {M : Nat → Option Body}
theorem spec_l04Any.says (h : spec_l04Any.k M) {R : List (List T)} (hR : Bytes R) (i : Nat) (q : Int) (hi : i ≤ R.length) :
    ∃ (l : List Reg) (i' : Nat) (q' : Int), l.length ≤ 4 ∧ i' ≤ R.length ∧ run M 274 [.c (.ptr 0 0 0 0)] [curD R i q] = some (.c (.sl false 3 (l.map encReg)), [curD R i' q']) := by
  obtain ⟨hm, kb, kf, kr⟩ := h
  obtain ⟨x, i1, q1, hx, hi1, h1⟩ := spec_l01Below.says kb hR i q hi 10 (by omega) (by omega)
  obtain ⟨l, i2, q2, hl, hi2, h2⟩ := spec_l04Flags.says kf hR i1 q1 hi1
  simp only [Int.cast_ofNat_Int] at h1
  have e7 : (l.map encReg).length = 3 := by simp [hl]
  have e8 : (l.map encReg).take 3 = l.map encReg := List.take_of_length_le (by omega)
  by_cases c0 : x = 0
  · have d0 : (x : Int) = 0 := by omega
    have e6 : (l ++ [(⟨0, 0, 0⟩ : Reg)]).map encReg = l.map encReg ++ [[I 0, I 0, I 0]] := by simp
    refine ⟨l ++ [⟨0, 0, 0⟩], i2, q2, by simp [hl], hi2, run_code (b := spec_l04Any.m) hm ⟨0, ?_⟩⟩
    rw [e6]
    generalize l.map encReg = rl at *
    simp (maxSteps := 1000000) [exB, spec_l04Any.m, spec_l04Any.b, List.range_succ, bs_get, setAt, h1, h2, c0, d0, e7, e8, List.take_of_length_le]
  · have d0 : ¬ (x : Int) = 0 := by omega
    by_cases c1 : x = 1
    · have d1 : (x : Int) = 1 := by omega
      have e6 : (l.drop 1).map encReg = (l.map encReg).drop 1 := by simp
      have e9 : ((l.map encReg).drop 1).length = 2 := by simp [hl]
      have e10 : ((l.map encReg).drop 1).take 2 = (l.map encReg).drop 1 := List.take_of_length_le (by omega)
      refine ⟨l.drop 1, i2, q2, by simp [hl], hi2, run_code (b := spec_l04Any.m) hm ⟨0, ?_⟩⟩
      rw [e6]
      generalize l.map encReg = rl at *
      simp (maxSteps := 1000000) [exB, spec_l04Any.m, spec_l04Any.b, List.range_succ, bs_get, setAt, h1, h2, c0, c1, d0, d1, e7, e8, e10]
      simpa using e10
    · have d1 : ¬ (x : Int) = 1 := by omega
      by_cases c2 : x = 2
      · have d2 : (x : Int) = 2 := by omega
        obtain ⟨y, i3, q3, hy, hi3, h3⟩ := spec_l01Below.says kb hR i2 q2 hi2 3 (by omega) (by omega)
        obtain ⟨r, i4, q4, hi4, h4⟩ := spec_l03Reg.says kr hR i3 q3 hi3
        simp only [Int.cast_ofNat_Int] at h3
        have e6 : (l.set y r).map encReg = (l.map encReg).set y [I r.val, I r.time, I r.who] := by rw [List.map_set]
        have e9 : ((l.map encReg).set y [I r.val, I r.time, I r.who]).take 3 = (l.map encReg).set y [I r.val, I r.time, I r.who] := List.take_of_length_le (by simp [hl])
        have e11 : ((l.map encReg)[y]'(by rw [e7]; exact hy)).length = 3 := by rw [List.getElem_map]; rfl
        have e12 : ((l.map encReg)[y]'(by rw [e7]; exact hy)).drop 3 = [] := by rw [List.getElem_map]; rfl
        refine ⟨l.set y r, i4, q4, by simp [hl], hi4, run_code (b := spec_l04Any.m) hm ⟨0, ?_⟩⟩
        rw [e6]
        generalize l.map encReg = rl at *
        simp (maxSteps := 1000000) [exB, spec_l04Any.m, spec_l04Any.b, List.range_succ, bs_get, setAt, h1, h2, h3, h4, c0, c1, c2, d0, d1, d2, e7, e8, e9, e11, e12, hy]
      · have d2 : ¬ (x : Int) = 2 := by omega
        refine ⟨l, i2, q2, by omega, hi2, run_code (b := spec_l04Any.m) hm ⟨0, ?_⟩⟩
        generalize l.map encReg = rl at *
        simp (maxSteps := 1000000) [exB, spec_l04Any.m, spec_l04Any.b, List.range_succ, bs_get, setAt, h1, h2, c0, c1, c2, d0, d1, d2, e7, e8]
theorem spec_l05Mail.says (h : spec_l05Mail.k M) {R : List (List T)} (hR : Bytes R) (i : Nat) (q : Int) (hi : i ≤ R.length) :
    ∃ (m : Mail) (i' : Nat) (q' : Int), m.flags.length = 3 ∧ i' ≤ R.length ∧ m.gid < 10 ∧ run M 273 [.c (.ptr 0 0 0 0)] [curD R i q] = some (.a [I m.gid, I m.uid, .sl true 3 (m.flags.map encReg), S m.text], [curD R i' q']) := by
  obtain ⟨hm, kb, kx, kf⟩ := h
  obtain ⟨x, i1, q1, hx, hi1, h1⟩ := spec_l01Below.says kb hR i q hi 6 (by omega) (by omega)
  obtain ⟨y, i2, q2, hy, hi2, h2⟩ := spec_l01Below.says kb hR i1 q1 hi1 6 (by omega) (by omega)
  obtain ⟨l, i3, q3, hl, hi3, h3⟩ := spec_l04Flags.says kf hR i2 q2 hi2
  obtain ⟨s, i4, q4, hs, hi4, h4⟩ := spec_l05Text.says kx hR i3 q3 hi3
  simp only [Int.cast_ofNat_Int] at h1 h2
  have e1 : IntKind.i64.wrap (1 + (x : Int)) = 1 + (x : Int) := wrap_i64 (by omega) (by omega)
  have e2 : IntKind.i64.wrap (1 + (y : Int)) = 1 + (y : Int) := wrap_i64 (by omega) (by omega)
  have e7 : (l.map encReg).length = 3 := by simp [hl]
  have e8 : (l.map encReg).take 3 = l.map encReg := List.take_of_length_le (by omega)
  refine ⟨⟨1 + x, 1 + y, l, s⟩, i4, q4, hl, hi4, by simp only; omega, run_code (b := spec_l05Mail.m) hm ⟨0, ?_⟩⟩
  simp only
  generalize l.map encReg = rl at *
  simp (maxSteps := 1000000) [exB, spec_l05Mail.m, spec_l05Mail.b, List.range_succ, bs_get, setAt, h1, h2, h3, h4, e1, e2, e7, e8]
end Mx

namespace Mx
open Go
variable {M : Nat → Option Body}
structure LgS where
  i : Nat
  l : List UInt8
  n : Nat
def lgS (v m : Nat) (s : LgS) : St := { t := [(0, .c (I m)), (1, .c (.int .u8 97)), (5, .c (.row 8 v 0 m)), (6, .c (I s.i))], o := [(8, ⟨v, 1, true, false, brow s.l⟩)], n := s.n }
def lgE (v m : Nat) (s : LgS) : St := { t := [(0, .c (I m)), (1, .c (.int .u8 97)), (5, .c (.row 8 v 0 m)), (6, .c (I s.i)), (11, .c (.bool false))], o := [(8, ⟨v, 1, true, false, brow s.l⟩)], n := s.n }
theorem brow_set (l : List UInt8) (i : Nat) (b : UInt8) : (brow l).set i [.int .u8 (b.toNat : Int)] = brow (l.set i b) := by
  simp [brow, List.map_set]
theorem lg_turn (k v m : Nat) (hm : m ≤ 1000) (s : LgS) (hs : s.i ≤ m ∧ s.l.length = m) :
    (∃ s', exC (run M) k spec_l01Long.l0 (lgS v m s) = some (.normal, lgS v m s') ∧ (s'.i ≤ m ∧ s'.l.length = m) ∧ m - s'.i < m - s.i) ∨
      (∃ r, exC (run M) k spec_l01Long.l0 (lgS v m s) = some r ∧ r.1 ≠ .normal ∧ ∃ s', r = (.exit 0, lgE v m s') ∧ s'.l.length = m) := by
  obtain ⟨i, l, n⟩ := s
  obtain ⟨hi, hl⟩ := hs
  simp only at hi hl
  by_cases hlt : i < m
  · left
    have hlt2 : (i : Int) < (m : Int) := by omega
    have e3 : IntKind.i64.wrap ((i : Int) + 1) = (i : Int) + 1 := wrap_i64 (by omega) (by omega)
    have e7 : (brow l).length = m := by simp [brow, hl]
    have e6 : (brow l).set i [.int .u8 97] = brow (l.set i 97) := brow_set l i 97
    have e8 : ∀ hh, ((brow l)[i]'hh).length = 1 := by intro hh; simp [brow]
    have e9 : ∀ hh, ((brow l)[i]'hh).drop 1 = [] := by intro hh; simp [brow]
    have hh : ∃ n', exC (run M) k spec_l01Long.l0 (lgS v m ⟨i, l, n⟩) = some (.normal, lgS v m ⟨i + 1, l.set i 97, n'⟩) := by
      simp only [lgS, ← e6]
      generalize brow l = rl at *
      simp (maxSteps := 1000000) [spec_l01Long.l0, List.range_succ, bs_get, setAt, hlt, hlt2, e3, e7, e8, e9]
    obtain ⟨n', hh⟩ := hh
    exact ⟨_, hh, ⟨by simp only; omega, by simp [hl]⟩, by simp only; omega⟩
  · right
    have hlt2 : ¬ (i : Int) < (m : Int) := by omega
    have hh : ∃ n', exC (run M) k spec_l01Long.l0 (lgS v m ⟨i, l, n⟩) = some (.exit 0, lgE v m ⟨i, l, n'⟩) := by
      simp only [lgS, lgE]
      simp (maxSteps := 1000000) [spec_l01Long.l0, List.range_succ, bs_get, setAt, hlt, hlt2]
    obtain ⟨n', hh⟩ := hh
    exact ⟨_, hh, by simp, _, rfl, hl⟩
theorem brow_zeros (m : Nat) : brow (List.replicate m 0) = List.replicate m [.int .u8 0] := by simp [brow]
theorem spec_l01Long.says (h : spec_l01Long.k M) (m : Nat) (hm : m ≤ 1000) : ∃ s : List UInt8, s.length = m ∧ run M 176 [.c (I m), .c (.int .u8 97)] [] = some (.c (S s), []) := by
  obtain ⟨r, hr, ⟨⟨j, l, n⟩, rfl, hl⟩⟩ := loop_ex (f := exC (run M) (m + 1) spec_l01Long.l0) (lgS 2000032 m) (fun s => s.i ≤ m ∧ s.l.length = m) (fun s => m - s.i) (fun r => ∃ s', r = (.exit 0, lgE 2000032 m s') ∧ s'.l.length = m)
    (fun s hs => lg_turn (m + 1) 2000032 m hm s hs) (m + 1) ⟨0, List.replicate m 0, 2000080⟩ ⟨by simp, by simp⟩ (by simp)
  simp only at hl
  refine ⟨l, hl, run_code (b := spec_l01Long.m) h ⟨m + 1, ?_⟩⟩
  simp only [lgS, lgE, brow_zeros] at hr
  have e7 : (brow l).length = m := by simp [brow, hl]
  have e8 : (brow l).take m = brow l := List.take_of_length_le (by omega)
  have e9 : m ≤ 4294967296 := by omega
  have e10 : m ≤ 140737488355328 := by omega
  simp at hr
  simp (maxSteps := 1000000) [exB, spec_l01Long.m, spec_l01Long.b, List.range_succ, bs_get, setAt, hr, e7, e8, e9, e10]
end Mx

namespace Mx
open Go
variable {M : Nat → Option Body}
theorem spec_l05Any.says (h : spec_l05Any.k M) {R : List (List T)} (hR : Bytes R) (i : Nat) (q : Int) (hi : i ≤ R.length) :
    ∃ (m : Mail) (i' : Nat) (q' : Int), m.flags.length ≤ 4 ∧ i' ≤ R.length ∧ (m.gid < 10 ∨ 18 < m.gid) ∧ run M 237 [.c (.ptr 0 0 0 0)] [curD R i q] = some (.a [I m.gid, I m.uid, .sl false 3 (m.flags.map encReg), S m.text], [curD R i' q']) := by
  obtain ⟨hm, kb, kl, km, ka⟩ := h
  obtain ⟨x, i1, q1, hx, hi1, h1⟩ := spec_l01Below.says kb hR i q hi 10 (by omega) (by omega)
  obtain ⟨y, i2, q2, hy, hi2, h2⟩ := spec_l01Below.says kb hR i1 q1 hi1 60 (by omega) (by omega)
  obtain ⟨m, i3, q3, hl, hi3, hgid, h3⟩ := spec_l05Mail.says km hR i2 q2 hi2
  simp only [Int.cast_ofNat_Int] at h1 h2
  have e7 : (m.flags.map encReg).length = 3 := by simp [hl]
  by_cases c0 : x = 0
  · have d0 : (x : Int) = 0 := by omega
    obtain ⟨z, hz, ez⟩ := tmod_small y 4 (by omega)
    simp only [Int.cast_ofNat_Int] at ez
    have hz4 : z = 0 ∨ z = 1 ∨ z = 2 ∨ z = 3 := by omega
    rcases hz4 with rfl | rfl | rfl | rfl
    · refine ⟨⟨0, m.uid, m.flags, m.text⟩, i3, q3, by simp only; omega, hi3, by simp only; omega, run_code (b := spec_l05Any.m) hm ⟨0, ?_⟩⟩
      simp only
      generalize m.flags.map encReg = rl at *
      simp (maxSteps := 1000000) [exB, spec_l05Any.m, spec_l05Any.b, List.range_succ, bs_get, setAt, h1, h2, h3, ez, c0, d0, e7]
    · refine ⟨⟨9999, m.uid, m.flags, m.text⟩, i3, q3, by simp only; omega, hi3, by simp only; omega, run_code (b := spec_l05Any.m) hm ⟨0, ?_⟩⟩
      simp only
      generalize m.flags.map encReg = rl at *
      simp (maxSteps := 1000000) [exB, spec_l05Any.m, spec_l05Any.b, List.range_succ, bs_get, setAt, h1, h2, h3, ez, c0, d0, e7]
    · refine ⟨⟨10000, m.uid, m.flags, m.text⟩, i3, q3, by simp only; omega, hi3, by simp only; omega, run_code (b := spec_l05Any.m) hm ⟨0, ?_⟩⟩
      simp only
      generalize m.flags.map encReg = rl at *
      simp (maxSteps := 1000000) [exB, spec_l05Any.m, spec_l05Any.b, List.range_succ, bs_get, setAt, h1, h2, h3, ez, c0, d0, e7]
    · refine ⟨⟨(-1), m.uid, m.flags, m.text⟩, i3, q3, by simp only; omega, hi3, by simp only; omega, run_code (b := spec_l05Any.m) hm ⟨0, ?_⟩⟩
      simp only
      generalize m.flags.map encReg = rl at *
      simp (maxSteps := 1000000) [exB, spec_l05Any.m, spec_l05Any.b, List.range_succ, bs_get, setAt, h1, h2, h3, ez, c0, d0, e7]
  have d0 : ¬ (x : Int) = 0 := by omega
  by_cases c1 : x = 1
  · have d1 : (x : Int) = 1 := by omega
    obtain ⟨z, hz, ez⟩ := tmod_small y 3 (by omega)
    simp only [Int.cast_ofNat_Int] at ez
    have hz4 : z = 0 ∨ z = 1 ∨ z = 2 := by omega
    rcases hz4 with rfl | rfl | rfl
    · refine ⟨⟨m.gid, 0, m.flags, m.text⟩, i3, q3, by simp only; omega, hi3, by simp only; omega, run_code (b := spec_l05Any.m) hm ⟨0, ?_⟩⟩
      simp only
      generalize m.flags.map encReg = rl at *
      simp (maxSteps := 1000000) [exB, spec_l05Any.m, spec_l05Any.b, List.range_succ, bs_get, setAt, h1, h2, h3, ez, c0, d0, c1, d1, e7]
    · refine ⟨⟨m.gid, 9999, m.flags, m.text⟩, i3, q3, by simp only; omega, hi3, by simp only; omega, run_code (b := spec_l05Any.m) hm ⟨0, ?_⟩⟩
      simp only
      generalize m.flags.map encReg = rl at *
      simp (maxSteps := 1000000) [exB, spec_l05Any.m, spec_l05Any.b, List.range_succ, bs_get, setAt, h1, h2, h3, ez, c0, d0, c1, d1, e7]
    · refine ⟨⟨m.gid, 10000, m.flags, m.text⟩, i3, q3, by simp only; omega, hi3, by simp only; omega, run_code (b := spec_l05Any.m) hm ⟨0, ?_⟩⟩
      simp only
      generalize m.flags.map encReg = rl at *
      simp (maxSteps := 1000000) [exB, spec_l05Any.m, spec_l05Any.b, List.range_succ, bs_get, setAt, h1, h2, h3, ez, c0, d0, c1, d1, e7]
  have d1 : ¬ (x : Int) = 1 := by omega
  by_cases c2 : x = 2
  · have d2 : (x : Int) = 2 := by omega
    obtain ⟨fl, i4, q4, hl4, hi4, h4⟩ := spec_l04Any.says ka hR i3 q3 hi3
    refine ⟨⟨m.gid, m.uid, fl, m.text⟩, i4, q4, hl4, hi4, by simp only; omega, run_code (b := spec_l05Any.m) hm ⟨0, ?_⟩⟩
    simp only
    generalize m.flags.map encReg = rl at *
    generalize fl.map encReg = rl2 at *
    simp (maxSteps := 1000000) [exB, spec_l05Any.m, spec_l05Any.b, List.range_succ, bs_get, setAt, h1, h2, h3, h4, c0, d0, c1, d1, c2, d2, e7]
  have d2 : ¬ (x : Int) = 2 := by omega
  by_cases c3 : x = 3
  · have d3 : (x : Int) = 3 := by omega
    obtain ⟨z, hz, ez⟩ := tmod_small y 2 (by omega)
    simp only [Int.cast_ofNat_Int] at ez
    have e9 : IntKind.i64.wrap (60 + (z : Int)) = ((60 + z : Nat) : Int) := wrap_i64 (by omega) (by omega)
    obtain ⟨w, hw⟩ : ∃ w, 60 + z = w := ⟨_, rfl⟩
    rw [hw] at e9
    obtain ⟨s, hs, h4⟩ := spec_l01Long.says kl w (by omega)
    refine ⟨⟨m.gid, m.uid, m.flags, s⟩, i3, q3, by simp only; omega, hi3, by simp only; omega, run_code (b := spec_l05Any.m) hm ⟨0, ?_⟩⟩
    simp only
    generalize m.flags.map encReg = rl at *
    simp (maxSteps := 1000000) [exB, spec_l05Any.m, spec_l05Any.b, List.range_succ, bs_get, setAt, h1, h2, h3, h4, ez, e9, c0, d0, c1, d1, c2, d2, c3, d3, e7]
  have d3 : ¬ (x : Int) = 3 := by omega
  refine ⟨m, i3, q3, by omega, hi3, by omega, run_code (b := spec_l05Any.m) hm ⟨0, ?_⟩⟩
  generalize m.flags.map encReg = rl at *
  simp (maxSteps := 1000000) [exB, spec_l05Any.m, spec_l05Any.b, List.range_succ, bs_get, setAt, h1, h2, h3, c0, d0, c1, d1, c2, d2, c3, d3, e7]
end Mx

namespace Mx
open Go
variable {M : Nat → Option Body}
theorem Good.flags {b : Box} (h : Good b) : ∀ m ∈ b.mails, m.flags.length ≤ 4 := fun m hm => by have := (mailOk_vars (h.mail m hm).1).2.2.1; omega
theorem nodup_range : ∀ (n : Nat) (lo : Int) (l : List Int), l.Nodup → (∀ x ∈ l, lo ≤ x ∧ x < lo + n) → l.length ≤ n
  | 0, lo, l, _, h => by
    cases l with
    | nil => simp
    | cons x l => have := h x (List.mem_cons_self ..); omega
  | n + 1, lo, l, hn, h => by
    have h1 := nodup_range n lo (l.erase (lo + n)) (hn.erase _) fun x hx => by
      obtain ⟨q1, q2⟩ := hn.mem_erase_iff.1 hx
      have := h x q2
      omega
    have h2 := List.le_length_erase (a := lo + (n : Int)) (l := l)
    omega
theorem drawn_len {i : Nat} {b : Box} (h : Drawn i b) : b.mails.length ≤ 9 := by
  have h1 := nodup_range 9 10 (b.mails.map (·.gid)) (List.pairwise_map.2 h.good.gids) fun x hx => by
    obtain ⟨m, hm, rfl⟩ := List.mem_map.1 hx
    have := h.m m hm
    omega
  simpa using h1
set_option maxHeartbeats 4000000 in
theorem spec_l06Any.wild (h : spec_l06Any.k M) {R : List (List T)} (hR : Bytes R) (i : Nat) (q : Int) (hi : i ≤ R.length) :
    ∃ (b : Box) (i' : Nat) (q' : Int), ((BoxIn b ∧ b.mails.Pairwise (fun a c => a.gid ≠ c.gid)) ∧ b.mails.length ≤ 10 ∧ b.gone.length ≤ 50 ∧ 0 ≤ b.next ∧ b.next ≤ 100) ∧ i' ≤ R.length ∧ run M 173 [.c (.ptr 0 0 0 0)] [curD R i q] = some (.a (encBoxO b), [curD R i' q']) := by
  obtain ⟨hm, kb, kx, ks, kc, km⟩ := h
  obtain ⟨x, i1, q1, hx, hi1, h1⟩ := spec_l01Below.says kb hR i q hi 14 (by omega) (by omega)
  obtain ⟨y, i2, q2, hy, hi2, h2⟩ := spec_l01Below.says kb hR i1 q1 hi1 60 (by omega) (by omega)
  obtain ⟨b, i3, q3, hD, hi3, h3⟩ := spec_l06Box.says kx hR i2 q2 hi2
  have hB := hD.good.inB
  have h4 := spec_l06Copy.says kc b hB
  simp only [Int.cast_ofNat_Int] at h1 h2
  have e7 : (b.mails.map encMail).length = b.mails.length := by simp
  have e8 := irow_length b.gone
  have hml := hD.good.len
  have hgl := hD.gl
  have hm9 := drawn_len hD
  have hnx := hD.nx
  have hnx1 := hD.good.next.1
  have e11 : (b.mails.map encMail).take b.mails.length = b.mails.map encMail := List.take_of_length_le (by omega)
  have e12 : (irow b.gone).take b.gone.length = irow b.gone := List.take_of_length_le (by omega)
  simp only [encBox, encBoxO, mails, ints] at h3 h4 ⊢
  by_cases c0 : x = 0
  · have d0 : (x : Int) = 0 := by omega
    obtain ⟨z, hz, ez⟩ := tmod_small y 3 (by omega)
    simp only [Int.cast_ofNat_Int] at ez
    refine ⟨{ b with gid := z }, i3, q3, ?_, hi3, run_code (b := spec_l06Any.m) hm ⟨0, ?_⟩⟩
    · exact ⟨⟨⟨hB.m, hB.g, hB.n, hB.f⟩, hD.good.gids⟩, ⟨by first | omega | (simp only; omega) | (simp; omega), by first | omega | (simp only; omega) | (simp; omega), by first | omega | (simp only; omega) | (simp; omega), by first | omega | (simp only; omega) | (simp; omega)⟩⟩
    simp only
    generalize b.mails.map encMail = rm at *
    generalize irow b.gone = rg at *
    simp (maxSteps := 1000000) [exB, spec_l06Any.m, spec_l06Any.b, List.range_succ, bs_get, setAt, h1, h2, h3, h4, c0, d0, e7, e8, e11, e12, ez]
  have d0 : ¬ (x : Int) = 0 := by omega
  by_cases c1 : x = 1
  · have d1 : (x : Int) = 1 := by omega
    obtain ⟨z, hz, ez⟩ := tmod_small y 3 (by omega)
    simp only [Int.cast_ofNat_Int] at ez
    have hz4 : z = 0 ∨ z = 1 ∨ z = 2 := by omega
    rcases hz4 with rfl | rfl | rfl
    · skip
      refine ⟨{ b with name := [] }, i3, q3, ?_, hi3, run_code (b := spec_l06Any.m) hm ⟨0, ?_⟩⟩
      · exact ⟨⟨⟨hB.m, hB.g, by simp, hB.f⟩, hD.good.gids⟩, ⟨by first | omega | (simp only; omega) | (simp; omega), by first | omega | (simp only; omega) | (simp; omega), by first | omega | (simp only; omega) | (simp; omega), by first | omega | (simp only; omega) | (simp; omega)⟩⟩
      simp only
      generalize b.mails.map encMail = rm at *
      generalize irow b.gone = rg at *
      simp (maxSteps := 1000000) [exB, spec_l06Any.m, spec_l06Any.b, List.range_succ, bs_get, setAt, h1, h2, h3, h4, c0, d0, c1, d1, e7, e8, e11, e12, ez]
    · skip
      refine ⟨{ b with name := [65] }, i3, q3, ?_, hi3, run_code (b := spec_l06Any.m) hm ⟨0, ?_⟩⟩
      · exact ⟨⟨⟨hB.m, hB.g, by simp, hB.f⟩, hD.good.gids⟩, ⟨by first | omega | (simp only; omega) | (simp; omega), by first | omega | (simp only; omega) | (simp; omega), by first | omega | (simp only; omega) | (simp; omega), by first | omega | (simp only; omega) | (simp; omega)⟩⟩
      simp only
      generalize b.mails.map encMail = rm at *
      generalize irow b.gone = rg at *
      simp (maxSteps := 1000000) [exB, spec_l06Any.m, spec_l06Any.b, List.range_succ, bs_get, setAt, h1, h2, h3, h4, c0, d0, c1, d1, e7, e8, e11, e12, ez]
    · skip
      refine ⟨{ b with name := [116, 104, 105, 114, 116, 101, 101, 110, 115, 105, 103, 110, 115] }, i3, q3, ?_, hi3, run_code (b := spec_l06Any.m) hm ⟨0, ?_⟩⟩
      · exact ⟨⟨⟨hB.m, hB.g, by simp, hB.f⟩, hD.good.gids⟩, ⟨by first | omega | (simp only; omega) | (simp; omega), by first | omega | (simp only; omega) | (simp; omega), by first | omega | (simp only; omega) | (simp; omega), by first | omega | (simp only; omega) | (simp; omega)⟩⟩
      simp only
      generalize b.mails.map encMail = rm at *
      generalize irow b.gone = rg at *
      simp (maxSteps := 1000000) [exB, spec_l06Any.m, spec_l06Any.b, List.range_succ, bs_get, setAt, h1, h2, h3, h4, c0, d0, c1, d1, e7, e8, e11, e12, ez]
  have d1 : ¬ (x : Int) = 1 := by omega
  by_cases c2 : x = 2
  · have d2 : (x : Int) = 2 := by omega
    obtain ⟨z, hz, ez⟩ := tmod_small y 5 (by omega)
    simp only [Int.cast_ofNat_Int] at ez
    refine ⟨{ b with next := z }, i3, q3, ?_, hi3, run_code (b := spec_l06Any.m) hm ⟨0, ?_⟩⟩
    · exact ⟨⟨⟨hB.m, hB.g, hB.n, hB.f⟩, hD.good.gids⟩, ⟨by first | omega | (simp only; omega) | (simp; omega), by first | omega | (simp only; omega) | (simp; omega), by first | omega | (simp only; omega) | (simp; omega), by first | omega | (simp only; omega) | (simp; omega)⟩⟩
    simp only
    generalize b.mails.map encMail = rm at *
    generalize irow b.gone = rg at *
    simp (maxSteps := 1000000) [exB, spec_l06Any.m, spec_l06Any.b, List.range_succ, bs_get, setAt, h1, h2, h3, h4, c0, d0, c1, d1, c2, d2, e7, e8, e11, e12, ez]
  have d2 : ¬ (x : Int) = 2 := by omega
  by_cases c3 : x = 3
  · have d3 : (x : Int) = 3 := by omega
    obtain ⟨m, i4, q4, hl4, hi4, hgid, h5⟩ := spec_l05Any.says km hR i3 q3 hi3
    have e13 : b.mails.length + 1 ≤ 4294967296 := by omega
    have e14 : (b.mails ++ [m]).map encMail = b.mails.map encMail ++ [[I m.gid, I m.uid, .sl false 3 (m.flags.map encReg), S m.text]] := by simp
    refine ⟨{ b with mails := b.mails ++ [m] }, i4, q4, ?_, hi4, run_code (b := spec_l06Any.m) hm ⟨0, ?_⟩⟩
    · refine ⟨⟨⟨by simp; omega, hB.g, hB.n, fun m' hm' => ?_⟩, List.pairwise_append.2 ⟨hD.good.gids, List.pairwise_singleton _ _, fun a ha c hc => by
        simp only [List.mem_singleton] at hc; subst hc; have := hD.m a ha; omega⟩⟩, ⟨by first | omega | (simp only; omega) | (simp; omega), by first | omega | (simp only; omega) | (simp; omega), by first | omega | (simp only; omega) | (simp; omega), by first | omega | (simp only; omega) | (simp; omega)⟩⟩
      rcases List.mem_append.1 hm' with w | w
      · exact hB.f m' w
      · simp only [List.mem_singleton] at w; subst w; omega
    simp only
    rw [e14]
    generalize m.flags.map encReg = rl at *
    generalize b.mails.map encMail = rm at *
    generalize irow b.gone = rg at *
    simp (maxSteps := 1000000) [exB, spec_l06Any.m, spec_l06Any.b, List.range_succ, bs_get, setAt, h1, h2, h3, h4, h5, c0, d0, c1, d1, c2, d2, c3, d3, e7, e8, e11, e12, e13]
    exact List.take_of_length_le (by simp; omega)
  have d3 : ¬ (x : Int) = 3 := by omega
  by_cases c4 : x = 4
  · have d4 : (x : Int) = 4 := by omega
    have e13 : b.gone.length + 1 ≤ 4294967296 := by omega
    have e14 : irow (b.gone ++ [(y : Int)]) = irow b.gone ++ [[I y]] := irow_snoc b.gone y
    refine ⟨{ b with gone := b.gone ++ [(y : Int)] }, i3, q3, ?_, hi3, run_code (b := spec_l06Any.m) hm ⟨0, ?_⟩⟩
    · exact ⟨⟨⟨hB.m, by simp; omega, hB.n, hB.f⟩, hD.good.gids⟩, ⟨by first | omega | (simp only; omega) | (simp; omega), by first | omega | (simp only; omega) | (simp; omega), by first | omega | (simp only; omega) | (simp; omega), by first | omega | (simp only; omega) | (simp; omega)⟩⟩
    simp only
    rw [e14]
    generalize b.mails.map encMail = rm at *
    generalize irow b.gone = rg at *
    simp (maxSteps := 1000000) [exB, spec_l06Any.m, spec_l06Any.b, List.range_succ, bs_get, setAt, h1, h2, h3, h4, c0, d0, c1, d1, c2, d2, c3, d3, c4, d4, e7, e8, e11, e12, e13]
    exact List.take_of_length_le (by simp; omega)
  have d4 : ¬ (x : Int) = 4 := by omega
  by_cases c5 : x = 5
  · have d5 : (x : Int) = 5 := by omega
    obtain ⟨t, w, i4, q4, hi4, h5⟩ := spec_l03Any.says ks hR i3 q3 hi3
    refine ⟨{ b with time := t, who := w }, i4, q4, ?_, hi4, run_code (b := spec_l06Any.m) hm ⟨0, ?_⟩⟩
    · exact ⟨⟨⟨hB.m, hB.g, hB.n, hB.f⟩, hD.good.gids⟩, ⟨by first | omega | (simp only; omega) | (simp; omega), by first | omega | (simp only; omega) | (simp; omega), by first | omega | (simp only; omega) | (simp; omega), by first | omega | (simp only; omega) | (simp; omega)⟩⟩
    simp only
    generalize b.mails.map encMail = rm at *
    generalize irow b.gone = rg at *
    simp (maxSteps := 1000000) [exB, spec_l06Any.m, spec_l06Any.b, List.range_succ, bs_get, setAt, h1, h2, h3, h4, h5, c0, d0, c1, d1, c2, d2, c3, d3, c4, d4, c5, d5, e7, e8, e11, e12]
  have d5 : ¬ (x : Int) = 5 := by omega
  refine ⟨b, i3, q3, ?_, hi3, run_code (b := spec_l06Any.m) hm ⟨0, ?_⟩⟩
  · exact ⟨⟨hB, hD.good.gids⟩, ⟨by first | omega | (simp only; omega) | (simp; omega), by first | omega | (simp only; omega) | (simp; omega), by first | omega | (simp only; omega) | (simp; omega), by first | omega | (simp only; omega) | (simp; omega)⟩⟩
  generalize b.mails.map encMail = rm at *
  generalize irow b.gone = rg at *
  simp (maxSteps := 1000000) [exB, spec_l06Any.m, spec_l06Any.b, List.range_succ, bs_get, setAt, h1, h2, h3, h4, c0, d0, c1, d1, c2, d2, c3, d3, c4, d4, c5, d5, e7, e8, e11, e12]
end Mx

namespace Mx
open Go
/-- a right box of Gid 7 -/
structure Apart (b : Box) : Prop where
  good : Good b
  gid : b.gid = 7
theorem apart_add {b : Box} (h : Apart b) (g f : Int) (x : List UInt8) (t w : Int) : Apart (addMail b g f x t w).1 := by
  unfold addMail
  split
  · rename_i c
    exact ⟨boxOk_iff.1 c.2.2.2.2, h.gid⟩
  · exact h
theorem apart_take {b : Box} (h : Apart b) (g : Int) : Apart (takeOut b g).1 := by
  unfold takeOut
  split
  · exact h
  · rename_i k hk
    obtain ⟨hlt, he, _⟩ := mailO_some hk
    split
    · rename_i c
      have := good_take h.good hlt c.2
      rw [he] at this
      exact ⟨this, h.gid⟩
    · exact h
theorem apart_flag {b : Box} (h : Apart b) (g n t w : Int) : Apart (flagMail b g n t w).1 := by
  unfold flagMail
  split
  · exact h
  · rename_i k hk
    obtain ⟨hlt, he, _⟩ := mailO_some hk
    rw [List.getElem?_eq_getElem hlt]
    simp only
    split
    · have hm := h.good.mail _ (List.getElem_mem hlt)
      have hf : flagsOk (b.mails[k]).flags = true := by
        have := hm.1
        simp only [mailOk, Bool.and_eq_true] at this
        exact this.1.2
      exact ⟨good_set h.good hlt _ (setFlags_ok hf n t w), h.gid⟩
    · exact h
theorem apart_named {b : Box} (h : Apart b) {s : List UInt8} {t w : Int} (hs : nameOk s = true) (ht : stampOk t w = true) : Apart { b with name := s, time := t, who := w } :=
  ⟨⟨h.good.gid, hs, ht, h.good.next, h.good.len, h.good.gone, h.good.goneR, h.good.goneL, h.good.mail, h.good.uids, h.good.gids⟩, h.gid⟩
end Mx

namespace Mx
open Go
variable {M : Nat → Option Body}
structure TzS where
  i : Nat
  b : Box
  c : Bool
  ic : Nat
  q : Int
  n : Nat
def tzB (s : TzS) : List T := [I s.b.gid, S s.b.name, I s.b.time, I s.b.who, I s.b.next, if s.c then .sl false 4 (s.b.mails.map encMail) else .nils 4, if s.c then .sl false 1 (irow s.b.gone) else .nils 1]
def tzO (R : List (List T)) (u2 u3 u4 : Nat) (s : TzS) : List (Nat × Ob) := [curD R s.ic s.q, (2, ⟨u2, 7, true, true, [bzero]⟩), (3, ⟨u3, 7, true, true, [bzero]⟩), (4, ⟨u4, 7, true, true, [tzB s]⟩)]
def tzS (R : List (List T)) (u2 u3 u4 : Nat) (s : TzS) : St := { t := [(0, .c (.ptr 0 0 0 0)), (2, .c (.ptr 2 u2 0 0)), (3, .c (.ptr 3 u3 0 0)), (4, .c (.ptr 4 u4 0 0)), (5, .c (I s.i))], o := tzO R u2 u3 u4 s, n := s.n }
def tzE (R : List (List T)) (u2 u3 u4 : Nat) (s : TzS) : St := { t := [(0, .c (.ptr 0 0 0 0)), (2, .c (.ptr 2 u2 0 0)), (3, .c (.ptr 3 u3 0 0)), (4, .c (.ptr 4 u4 0 0)), (5, .c (I s.i)), (17, .c (.bool false))], o := tzO R u2 u3 u4 s, n := s.n }
structure TzI (R : List (List T)) (s : TzS) : Prop where
  i : s.i ≤ 5
  b : Apart s.b
  c : s.ic ≤ R.length
  e : s.c = false → s.b.mails = [] ∧ s.b.gone = []
set_option maxHeartbeats 2000000 in
theorem tz_add {R : List (List T)} (k u2 u3 u4 : Nat) (s : TzS) (ic1 ic2 x : Nat) (tx : List UInt8) (q1 q2 : Int) (b' : Box) (ok : Bool) (hi : s.i ≤ 5) (he : s.c = false → s.b.mails = [] ∧ s.b.gone = [])
    (h1 : run M 125 [.c (.ptr 0 0 0 0), .c (I 5)] [curD R s.ic s.q] = some (.c (I x), [curD R ic1 q1])) (hx : s.i < x)
    (h2 : run M 174 [.c (.ptr 0 0 0 0)] [curD R ic1 q1] = some (.c (S tx), [curD R ic2 q2]))
    (h3 : run M 81 [.a (encBox s.b), .c (I (10 + (s.i : Int))), .c (I 0), .c (S tx), .a [I 1, I 1]] [] = some (.tup [.a (encBoxO b'), .c (.bool ok)], [])) :
    ∃ n', exC (run M) k spec_l08Two.l0 (tzS R u2 u3 u4 s) = some (.normal, tzS R u2 u3 u4 ⟨s.i + 1, b', true, ic2, q2, n'⟩) := by
  obtain ⟨i, b, c, ic, q, n⟩ := s
  simp only at h1 hx he hi h3
  have e3 : IntKind.i64.wrap ((i : Int) + 1) = (i : Int) + 1 := wrap_i64 (by omega) (by omega)
  have e4 : IntKind.i64.wrap (10 + (i : Int)) = 10 + (i : Int) := wrap_i64 (by omega) (by omega)
  simp only [tzS, tzO, tzB]
  cases c
  · obtain ⟨em, eg⟩ := he rfl
    simp only [encBox, encBoxO, mails, ints, em, eg, List.map_nil] at h3
    simp only [irow_nil] at h3
    generalize b'.mails.map encMail = rm' at *
    generalize irow b'.gone = rg' at *
    simp (maxSteps := 1000000) [spec_l08Two.l0, List.range_succ, bs_get, setAt, h1, h2, h3, hx, e3, e4]
  · simp only [encBox, encBoxO, mails, ints] at h3
    generalize b'.mails.map encMail = rm' at *
    generalize irow b'.gone = rg' at *
    generalize b.mails.map encMail = rm at *
    generalize irow b.gone = rg at *
    simp (maxSteps := 1000000) [spec_l08Two.l0, List.range_succ, bs_get, setAt, h1, h2, h3, hx, e3, e4]
theorem tz_end {R : List (List T)} (k u2 u3 u4 : Nat) (s : TzS) (ic1 x : Nat) (q1 : Int)
    (h1 : run M 125 [.c (.ptr 0 0 0 0), .c (I 5)] [curD R s.ic s.q] = some (.c (I x), [curD R ic1 q1])) (hx : ¬ s.i < x) :
    ∃ n', exC (run M) k spec_l08Two.l0 (tzS R u2 u3 u4 s) = some (.exit 0, tzE R u2 u3 u4 { s with ic := ic1, q := q1, n := n' }) := by
  obtain ⟨i, b, c, ic, q, n⟩ := s
  simp only at h1 hx
  simp only [tzS, tzE, tzO, tzB]
  generalize b.mails.map encMail = rm at *
  generalize irow b.gone = rg at *
  simp (maxSteps := 1000000) [spec_l08Two.l0, List.range_succ, bs_get, setAt, h1, hx]
structure TwK (M : Nat → Option Body) : Prop where
  add : spec_AddMail.k M
  flag : spec_FlagMail.k M
  take : spec_TakeOut.k M
  below : spec_l01Below.k M
  text : spec_l05Text.k M
  stamp : spec_l03Stamp.k M
theorem tz_loop (K : TwK M) {R : List (List T)} (hR : Bytes R) (k u2 u3 u4 : Nat) (s : TzS) (hs : TzI R s) (hk : 6 ≤ k) :
    ∃ s', loopN (exC (run M) k spec_l08Two.l0) k (tzS R u2 u3 u4 s) = some (.exit 0, tzE R u2 u3 u4 s') ∧ TzI R s' := by
  obtain ⟨r, hr, s', rfl, hI⟩ := loop_ex (f := exC (run M) k spec_l08Two.l0) (tzS R u2 u3 u4) (TzI R) (fun s => 5 - s.i) (fun r => ∃ s', r = (.exit 0, tzE R u2 u3 u4 s') ∧ TzI R s')
    (fun s hs => by
      obtain ⟨x, ic1, q1, hx, hc1, h1⟩ := spec_l01Below.says K.below hR s.ic s.q hs.c 5 (by omega) (by omega)
      simp only [Int.cast_ofNat_Int] at h1
      have hi := hs.i
      by_cases c : s.i < x
      · left
        obtain ⟨tx, ic2, q2, htx, hc2, h2⟩ := spec_l05Text.says K.text hR ic1 q1 hc1
        have h3 := spec_AddMail.says K.add s.b hs.b.good.inB (10 + (s.i : Int)) 0 tx 1 1
        obtain ⟨n', hh⟩ := tz_add k u2 u3 u4 s ic1 ic2 x tx q1 q2 _ _ hi hs.e h1 c h2 h3
        exact ⟨_, hh, ⟨by simp only; omega, apart_add hs.b _ _ _ _ _, hc2, fun h => by cases h⟩, by simp only; omega⟩
      · right
        obtain ⟨n', hh⟩ := tz_end (M := M) k u2 u3 u4 s ic1 x q1 h1 c
        exact ⟨_, hh, by simp, _, rfl, ⟨hs.i, hs.b, hc1, hs.e⟩⟩) k s hs (by omega)
  exact ⟨s', hr, hI⟩
end Mx

namespace Mx
open Go
variable {M : Nat → Option Body}
structure TwS where
  i : Nat
  b : Box
  v1 : Nat
  v2 : Nat
  ic : Nat
  q : Int
  n : Nat
structure TwI (R : List (List T)) (s : TwS) : Prop where
  i : s.i ≤ 6
  b : Apart s.b
  c : s.ic ≤ R.length
def X1B (s : TwS) : List T := [I s.b.gid, S s.b.name, I s.b.time, I s.b.who, I s.b.next, .row 13105 s.v1 0 s.b.mails.length, .row 13106 s.v2 0 s.b.gone.length]
def X1O (R : List (List T)) (u2 u3 u4 u6 : Nat) (B : List T) (s : TwS) : List (Nat × Ob) := [curD R s.ic s.q, (2, ⟨u2, 7, true, true, [bzero]⟩), (3, ⟨u3, 7, true, true, [bzero]⟩), (4, ⟨u4, 7, true, true, [B]⟩), (6, ⟨u6, 7, true, true, [X1B s]⟩), (13105, ⟨s.v1, 4, true, false, s.b.mails.map encMail⟩), (13106, ⟨s.v2, 1, true, false, irow s.b.gone⟩)]
def X1S (R : List (List T)) (u2 u3 u4 u6 : Nat) (B : List T) (s : TwS) : St := { t := [(0, .c (.ptr 0 0 0 0)), (2, .c (.ptr 2 u2 0 0)), (3, .c (.ptr 3 u3 0 0)), (4, .c (.ptr 4 u4 0 0)), (6, .c (.ptr 6 u6 0 0)), (7, .c (I s.i))], o := X1O R u2 u3 u4 u6 B s, n := s.n }
def X1E (R : List (List T)) (u2 u3 u4 u6 : Nat) (B : List T) (s : TwS) : St := { t := [(0, .c (.ptr 0 0 0 0)), (2, .c (.ptr 2 u2 0 0)), (3, .c (.ptr 3 u3 0 0)), (4, .c (.ptr 4 u4 0 0)), (6, .c (.ptr 6 u6 0 0)), (7, .c (I s.i)), (35, .c (.bool false))], o := X1O R u2 u3 u4 u6 B s, n := s.n }
set_option maxHeartbeats 4000000 in
theorem X1_add {R : List (List T)} (k u2 u3 u4 u6 : Nat) (B : List T) (s : TwS) (ic1 ic2 ic3 ic4 ic5 x t w k4 f : Nat) (tx : List UInt8) (q1 q2 q3 q4 q5 : Int) (b' : Box) (ok : Bool) (hi : s.i ≤ 6)
    (h1 : run M 125 [.c (.ptr 0 0 0 0), .c (I 6)] [curD R s.ic s.q] = some (.c (I x), [curD R ic1 q1])) (hx : s.i < x)
    (h2 : run M 232 [.c (.ptr 0 0 0 0)] [curD R ic1 q1] = some (.a [I t, I w], [curD R ic2 q2]))
    (h3 : run M 125 [.c (.ptr 0 0 0 0), .c (I 4)] [curD R ic2 q2] = some (.c (I k4), [curD R ic3 q3])) (hk : k4 = 0 ∨ k4 = 1)
    (h4 : run M 125 [.c (.ptr 0 0 0 0), .c (I 8)] [curD R ic3 q3] = some (.c (I f), [curD R ic4 q4]))
    (h5 : run M 174 [.c (.ptr 0 0 0 0)] [curD R ic4 q4] = some (.c (S tx), [curD R ic5 q5]))
    (h6 : run M 81 [.a (encBox s.b), .c (I (20 + (s.i : Int))), .c (I f), .c (S tx), .a [I t, I w]] [] = some (.tup [.a (encBoxO b'), .c (.bool ok)], [])) :
    ∃ v1' v2' n', exC (run M) k spec_l08Two.l1 (X1S R u2 u3 u4 u6 B s) = some (.normal, X1S R u2 u3 u4 u6 B ⟨s.i + 1, b', v1', v2', ic5, q5, n'⟩) := by
  have ez : ((0 : Nat) : Int) = 0 := rfl
  obtain ⟨i, b, v1, v2, ic, q, n⟩ := s
  simp only at h1 hx hi h6
  have e3 : IntKind.i64.wrap ((i : Int) + 1) = (i : Int) + 1 := wrap_i64 (by omega) (by omega)
  have e4 : IntKind.i64.wrap (20 + (i : Int)) = 20 + (i : Int) := wrap_i64 (by omega) (by omega)
  have e7 : (b.mails.map encMail).length = b.mails.length := by simp
  have e8 := irow_length b.gone
  have e9 : (b'.mails.map encMail).length = b'.mails.length := by simp
  have e10 := irow_length b'.gone
  have e11 : (b.mails.map encMail).take b.mails.length = b.mails.map encMail := List.take_of_length_le (by omega)
  have e12 : (irow b.gone).take b.gone.length = irow b.gone := List.take_of_length_le (by omega)
  simp only [X1S, X1O, X1B]
  simp only [encBox, encBoxO, mails, ints] at h6
  generalize b'.mails.map encMail = rm' at *
  generalize irow b'.gone = rg' at *
  generalize b.mails.map encMail = rm at *
  generalize irow b.gone = rg at *
  rcases hk with rfl | rfl
  · simp only [Int.cast_ofNat_Int, ez] at h3
    simp (maxSteps := 1000000) [spec_l08Two.l1, List.range_succ, bs_get, setAt, h1, h2, h3, h4, h5, h6, hx, e3, e4, e7, e8, e9, e10, e11, e12]
  · simp only [Int.cast_ofNat_Int, ez] at h3
    simp (maxSteps := 1000000) [spec_l08Two.l1, List.range_succ, bs_get, setAt, h1, h2, h3, h4, h5, h6, hx, e3, e4, e7, e8, e9, e10, e11, e12]
set_option maxHeartbeats 4000000 in
theorem X1_flag {R : List (List T)} (k u2 u3 u4 u6 : Nat) (B : List T) (s : TwS) (ic1 ic2 ic3 ic4 ic5 x t w g f : Nat) (q1 q2 q3 q4 q5 : Int) (b' : Box) (ok : Bool) (hi : s.i ≤ 6) (hg : g < 5)
    (h1 : run M 125 [.c (.ptr 0 0 0 0), .c (I 6)] [curD R s.ic s.q] = some (.c (I x), [curD R ic1 q1])) (hx : s.i < x)
    (h2 : run M 232 [.c (.ptr 0 0 0 0)] [curD R ic1 q1] = some (.a [I t, I w], [curD R ic2 q2]))
    (h3 : run M 125 [.c (.ptr 0 0 0 0), .c (I 4)] [curD R ic2 q2] = some (.c (I 2), [curD R ic3 q3]))
    (h4 : run M 125 [.c (.ptr 0 0 0 0), .c (I 5)] [curD R ic3 q3] = some (.c (I g), [curD R ic4 q4]))
    (h5 : run M 125 [.c (.ptr 0 0 0 0), .c (I 8)] [curD R ic4 q4] = some (.c (I f), [curD R ic5 q5]))
    (h6 : run M 84 [.a (encBox s.b), .c (I (10 + (g : Int))), .c (I f), .a [I t, I w]] [] = some (.tup [.a (encBoxO b'), .c (.bool ok)], [])) :
    ∃ v1' v2' n', exC (run M) k spec_l08Two.l1 (X1S R u2 u3 u4 u6 B s) = some (.normal, X1S R u2 u3 u4 u6 B ⟨s.i + 1, b', v1', v2', ic5, q5, n'⟩) := by
  obtain ⟨i, b, v1, v2, ic, q, n⟩ := s
  simp only at h1 hx hi h6
  have e3 : IntKind.i64.wrap ((i : Int) + 1) = (i : Int) + 1 := wrap_i64 (by omega) (by omega)
  have e4 : IntKind.i64.wrap (10 + (g : Int)) = 10 + (g : Int) := wrap_i64 (by omega) (by omega)
  have e7 : (b.mails.map encMail).length = b.mails.length := by simp
  have e8 := irow_length b.gone
  have e9 : (b'.mails.map encMail).length = b'.mails.length := by simp
  have e10 := irow_length b'.gone
  have e11 : (b.mails.map encMail).take b.mails.length = b.mails.map encMail := List.take_of_length_le (by omega)
  have e12 : (irow b.gone).take b.gone.length = irow b.gone := List.take_of_length_le (by omega)
  simp only [X1S, X1O, X1B]
  simp only [encBox, encBoxO, mails, ints] at h6
  generalize b'.mails.map encMail = rm' at *
  generalize irow b'.gone = rg' at *
  generalize b.mails.map encMail = rm at *
  generalize irow b.gone = rg at *
  simp (maxSteps := 1000000) [spec_l08Two.l1, List.range_succ, bs_get, setAt, h1, h2, h3, h4, h5, h6, hx, e3, e4, e7, e8, e9, e10, e11, e12]
set_option maxHeartbeats 4000000 in
theorem X1_take {R : List (List T)} (k u2 u3 u4 u6 : Nat) (B : List T) (s : TwS) (ic1 ic2 ic3 ic4 x t w k4 g : Nat) (q1 q2 q3 q4 : Int) (b' : Box) (ok : Bool) (hi : s.i ≤ 6) (hg : g < 5)
    (h1 : run M 125 [.c (.ptr 0 0 0 0), .c (I 6)] [curD R s.ic s.q] = some (.c (I x), [curD R ic1 q1])) (hx : s.i < x)
    (h2 : run M 232 [.c (.ptr 0 0 0 0)] [curD R ic1 q1] = some (.a [I t, I w], [curD R ic2 q2]))
    (h3 : run M 125 [.c (.ptr 0 0 0 0), .c (I 4)] [curD R ic2 q2] = some (.c (I k4), [curD R ic3 q3])) (hk : 2 < k4)
    (h4 : run M 125 [.c (.ptr 0 0 0 0), .c (I 5)] [curD R ic3 q3] = some (.c (I g), [curD R ic4 q4]))
    (h6 : run M 86 [.a (encBox s.b), .c (I (10 + (g : Int)))] [] = some (.tup [.a (encBoxO b'), .c (.bool ok)], [])) :
    ∃ v1' v2' n', exC (run M) k spec_l08Two.l1 (X1S R u2 u3 u4 u6 B s) = some (.normal, X1S R u2 u3 u4 u6 B ⟨s.i + 1, b', v1', v2', ic4, q4, n'⟩) := by
  have d0 : ¬ k4 = 0 := by omega
  have d1 : ¬ k4 = 1 := by omega
  have d2 : ¬ k4 = 2 := by omega
  have f0 : ¬ (k4 : Int) = 0 := by omega
  have f1 : ¬ (k4 : Int) = 1 := by omega
  have f2 : ¬ (k4 : Int) = 2 := by omega
  obtain ⟨i, b, v1, v2, ic, q, n⟩ := s
  simp only at h1 hx hi h6
  have e3 : IntKind.i64.wrap ((i : Int) + 1) = (i : Int) + 1 := wrap_i64 (by omega) (by omega)
  have e4 : IntKind.i64.wrap (10 + (g : Int)) = 10 + (g : Int) := wrap_i64 (by omega) (by omega)
  have e7 : (b.mails.map encMail).length = b.mails.length := by simp
  have e8 := irow_length b.gone
  have e9 : (b'.mails.map encMail).length = b'.mails.length := by simp
  have e10 := irow_length b'.gone
  have e11 : (b.mails.map encMail).take b.mails.length = b.mails.map encMail := List.take_of_length_le (by omega)
  have e12 : (irow b.gone).take b.gone.length = irow b.gone := List.take_of_length_le (by omega)
  simp only [X1S, X1O, X1B]
  simp only [encBox, encBoxO, mails, ints] at h6
  generalize b'.mails.map encMail = rm' at *
  generalize irow b'.gone = rg' at *
  generalize b.mails.map encMail = rm at *
  generalize irow b.gone = rg at *
  simp (maxSteps := 1000000) [spec_l08Two.l1, List.range_succ, bs_get, setAt, h1, h2, h3, h4, h6, hx, d0, d1, d2, f0, f1, f2, e3, e4, e7, e8, e9, e10, e11, e12]
theorem X1_end {R : List (List T)} (k u2 u3 u4 u6 : Nat) (B : List T) (s : TwS) (ic1 x : Nat) (q1 : Int)
    (h1 : run M 125 [.c (.ptr 0 0 0 0), .c (I 6)] [curD R s.ic s.q] = some (.c (I x), [curD R ic1 q1])) (hx : ¬ s.i < x) :
    ∃ n', exC (run M) k spec_l08Two.l1 (X1S R u2 u3 u4 u6 B s) = some (.exit 2, X1E R u2 u3 u4 u6 B { s with ic := ic1, q := q1, n := n' }) := by
  obtain ⟨i, b, v1, v2, ic, q, n⟩ := s
  simp only at h1 hx
  simp only [X1S, X1E, X1O, X1B]
  generalize b.mails.map encMail = rm at *
  generalize irow b.gone = rg at *
  simp (maxSteps := 1000000) [spec_l08Two.l1, List.range_succ, bs_get, setAt, h1, hx]
theorem X1_loop (K : TwK M) {R : List (List T)} (hR : Bytes R) (k u2 u3 u4 u6 : Nat) (B : List T) (s : TwS) (hs : TwI R s) (hk : 7 ≤ k) :
    ∃ s', loopN (exC (run M) k spec_l08Two.l1) k (X1S R u2 u3 u4 u6 B s) = some (.exit 2, X1E R u2 u3 u4 u6 B s') ∧ TwI R s' := by
  obtain ⟨r, hr, s', rfl, hI⟩ := loop_ex (f := exC (run M) k spec_l08Two.l1) (X1S R u2 u3 u4 u6 B) (TwI R) (fun s => 6 - s.i) (fun r => ∃ s', r = (.exit 2, X1E R u2 u3 u4 u6 B s') ∧ TwI R s')
    (fun s hs => by
      obtain ⟨x, ic1, q1, hx, hc1, h1⟩ := spec_l01Below.says K.below hR s.ic s.q hs.c 6 (by omega) (by omega)
      simp only [Int.cast_ofNat_Int] at h1
      have hi := hs.i
      have hb := hs.b.good.inB
      by_cases c : s.i < x
      · left
        obtain ⟨t, w, ic2, q2, ht, hw1, hw2, hc2, h2⟩ := spec_l03Stamp.says K.stamp hR ic1 q1 hc1
        obtain ⟨k4, ic3, q3, hk4, hc3, h3⟩ := spec_l01Below.says K.below hR ic2 q2 hc2 4 (by omega) (by omega)
        simp only [Int.cast_ofNat_Int] at h3
        by_cases c1 : k4 ≤ 1
        · obtain ⟨f, ic4, q4, hf, hc4, h4⟩ := spec_l01Below.says K.below hR ic3 q3 hc3 8 (by omega) (by omega)
          simp only [Int.cast_ofNat_Int] at h4
          obtain ⟨tx, ic5, q5, htx, hc5, h5⟩ := spec_l05Text.says K.text hR ic4 q4 hc4
          have h6 := spec_AddMail.says K.add s.b hb (20 + (s.i : Int)) f tx t w
          obtain ⟨v1', v2', n', hh⟩ := X1_add k u2 u3 u4 u6 B s ic1 ic2 ic3 ic4 ic5 x t w k4 f tx q1 q2 q3 q4 q5 _ _ hi h1 c h2 h3 (by omega) h4 h5 h6
          exact ⟨_, hh, ⟨by simp only; omega, apart_add hs.b _ _ _ _ _, hc5⟩, by simp only; omega⟩
        · obtain ⟨g, ic4, q4, hg, hc4, h4⟩ := spec_l01Below.says K.below hR ic3 q3 hc3 5 (by omega) (by omega)
          simp only [Int.cast_ofNat_Int] at h4
          by_cases c2 : k4 = 2
          · subst c2
            obtain ⟨f, ic5, q5, hf, hc5, h5⟩ := spec_l01Below.says K.below hR ic4 q4 hc4 8 (by omega) (by omega)
            simp only [Int.cast_ofNat_Int] at h3 h5
            have h6 := spec_FlagMail.says K.flag s.b hb (10 + (g : Int)) f t w
            obtain ⟨v1', v2', n', hh⟩ := X1_flag k u2 u3 u4 u6 B s ic1 ic2 ic3 ic4 ic5 x t w g f q1 q2 q3 q4 q5 _ _ hi hg h1 c h2 h3 h4 h5 h6
            exact ⟨_, hh, ⟨by simp only; omega, apart_flag hs.b _ _ _ _, hc5⟩, by simp only; omega⟩
          · have h6 := spec_TakeOut.says K.take s.b hb (10 + (g : Int))
            obtain ⟨v1', v2', n', hh⟩ := X1_take k u2 u3 u4 u6 B s ic1 ic2 ic3 ic4 x t w k4 g q1 q2 q3 q4 _ _ hi hg h1 c h2 h3 (by omega) h4 h6
            exact ⟨_, hh, ⟨by simp only; omega, apart_take hs.b _, hc4⟩, by simp only; omega⟩
      · right
        obtain ⟨n', hh⟩ := X1_end (M := M) k u2 u3 u4 u6 B s ic1 x q1 h1 c
        exact ⟨_, hh, by simp, _, rfl, ⟨hs.i, hs.b, hc1⟩⟩) k s hs (by omega)
  exact ⟨s', hr, hI⟩
end Mx

namespace Mx
open Go
variable {M : Nat → Option Body}
structure OtB where
  A : List T
  w1 : Nat
  w2 : Nat
  r1 : List (List T)
  r2 : List (List T)
def X2B (s : TwS) : List T := [I s.b.gid, S s.b.name, I s.b.time, I s.b.who, I s.b.next, .row 17905 s.v1 0 s.b.mails.length, .row 17906 s.v2 0 s.b.gone.length]
def X2O (R : List (List T)) (u2 u3 u6 u9 : Nat) (B : OtB) (s : TwS) : List (Nat × Ob) := [curD R s.ic s.q, (2, ⟨u2, 7, true, true, [bzero]⟩), (3, ⟨u3, 7, true, true, [bzero]⟩), (6, ⟨u6, 7, true, true, [B.A]⟩), (9, ⟨u9, 7, true, true, [X2B s]⟩), (13105, ⟨B.w1, 4, true, false, B.r1⟩), (13106, ⟨B.w2, 1, true, false, B.r2⟩), (17905, ⟨s.v1, 4, true, false, s.b.mails.map encMail⟩), (17906, ⟨s.v2, 1, true, false, irow s.b.gone⟩)]
def X2S (R : List (List T)) (u2 u3 u6 u9 : Nat) (B : OtB) (s : TwS) : St := { t := [(0, .c (.ptr 0 0 0 0)), (2, .c (.ptr 2 u2 0 0)), (3, .c (.ptr 3 u3 0 0)), (6, .c (.ptr 6 u6 0 0)), (9, .c (.ptr 9 u9 0 0)), (10, .c (I s.i))], o := X2O R u2 u3 u6 u9 B s, n := s.n }
def X2E (R : List (List T)) (u2 u3 u6 u9 : Nat) (B : OtB) (s : TwS) : St := { t := [(0, .c (.ptr 0 0 0 0)), (2, .c (.ptr 2 u2 0 0)), (3, .c (.ptr 3 u3 0 0)), (6, .c (.ptr 6 u6 0 0)), (9, .c (.ptr 9 u9 0 0)), (10, .c (I s.i)), (83, .c (.bool false))], o := X2O R u2 u3 u6 u9 B s, n := s.n }
set_option maxHeartbeats 4000000 in
theorem X2_add {R : List (List T)} (k u2 u3 u6 u9 : Nat) (B : OtB) (s : TwS) (ic1 ic2 ic3 ic4 ic5 x t w k4 f : Nat) (tx : List UInt8) (q1 q2 q3 q4 q5 : Int) (b' : Box) (ok : Bool) (hi : s.i ≤ 6)
    (h1 : run M 125 [.c (.ptr 0 0 0 0), .c (I 6)] [curD R s.ic s.q] = some (.c (I x), [curD R ic1 q1])) (hx : s.i < x)
    (h2 : run M 232 [.c (.ptr 0 0 0 0)] [curD R ic1 q1] = some (.a [I t, I w], [curD R ic2 q2]))
    (h3 : run M 125 [.c (.ptr 0 0 0 0), .c (I 4)] [curD R ic2 q2] = some (.c (I k4), [curD R ic3 q3])) (hk : k4 = 0 ∨ k4 = 1)
    (h4 : run M 125 [.c (.ptr 0 0 0 0), .c (I 8)] [curD R ic3 q3] = some (.c (I f), [curD R ic4 q4]))
    (h5 : run M 174 [.c (.ptr 0 0 0 0)] [curD R ic4 q4] = some (.c (S tx), [curD R ic5 q5]))
    (h6 : run M 81 [.a (encBox s.b), .c (I (30 + (s.i : Int))), .c (I f), .c (S tx), .a [I t, I w]] [] = some (.tup [.a (encBoxO b'), .c (.bool ok)], [])) :
    ∃ v1' v2' n', exC (run M) k spec_l08Two.l2 (X2S R u2 u3 u6 u9 B s) = some (.normal, X2S R u2 u3 u6 u9 B ⟨s.i + 1, b', v1', v2', ic5, q5, n'⟩) := by
  have ez : ((0 : Nat) : Int) = 0 := rfl
  obtain ⟨i, b, v1, v2, ic, q, n⟩ := s
  simp only at h1 hx hi h6
  have e3 : IntKind.i64.wrap ((i : Int) + 1) = (i : Int) + 1 := wrap_i64 (by omega) (by omega)
  have e4 : IntKind.i64.wrap (30 + (i : Int)) = 30 + (i : Int) := wrap_i64 (by omega) (by omega)
  have e7 : (b.mails.map encMail).length = b.mails.length := by simp
  have e8 := irow_length b.gone
  have e9 : (b'.mails.map encMail).length = b'.mails.length := by simp
  have e10 := irow_length b'.gone
  have e11 : (b.mails.map encMail).take b.mails.length = b.mails.map encMail := List.take_of_length_le (by omega)
  have e12 : (irow b.gone).take b.gone.length = irow b.gone := List.take_of_length_le (by omega)
  simp only [X2S, X2O, X2B]
  simp only [encBox, encBoxO, mails, ints] at h6
  generalize b'.mails.map encMail = rm' at *
  generalize irow b'.gone = rg' at *
  generalize b.mails.map encMail = rm at *
  generalize irow b.gone = rg at *
  rcases hk with rfl | rfl
  · simp only [Int.cast_ofNat_Int, ez] at h3
    simp (maxSteps := 1000000) [spec_l08Two.l2, List.range_succ, bs_get, setAt, h1, h2, h3, h4, h5, h6, hx, e3, e4, e7, e8, e9, e10, e11, e12]
  · simp only [Int.cast_ofNat_Int, ez] at h3
    simp (maxSteps := 1000000) [spec_l08Two.l2, List.range_succ, bs_get, setAt, h1, h2, h3, h4, h5, h6, hx, e3, e4, e7, e8, e9, e10, e11, e12]
set_option maxHeartbeats 4000000 in
theorem X2_flag {R : List (List T)} (k u2 u3 u6 u9 : Nat) (B : OtB) (s : TwS) (ic1 ic2 ic3 ic4 ic5 x t w g f : Nat) (q1 q2 q3 q4 q5 : Int) (b' : Box) (ok : Bool) (hi : s.i ≤ 6) (hg : g < 5)
    (h1 : run M 125 [.c (.ptr 0 0 0 0), .c (I 6)] [curD R s.ic s.q] = some (.c (I x), [curD R ic1 q1])) (hx : s.i < x)
    (h2 : run M 232 [.c (.ptr 0 0 0 0)] [curD R ic1 q1] = some (.a [I t, I w], [curD R ic2 q2]))
    (h3 : run M 125 [.c (.ptr 0 0 0 0), .c (I 4)] [curD R ic2 q2] = some (.c (I 2), [curD R ic3 q3]))
    (h4 : run M 125 [.c (.ptr 0 0 0 0), .c (I 5)] [curD R ic3 q3] = some (.c (I g), [curD R ic4 q4]))
    (h5 : run M 125 [.c (.ptr 0 0 0 0), .c (I 8)] [curD R ic4 q4] = some (.c (I f), [curD R ic5 q5]))
    (h6 : run M 84 [.a (encBox s.b), .c (I (10 + (g : Int))), .c (I f), .a [I t, I w]] [] = some (.tup [.a (encBoxO b'), .c (.bool ok)], [])) :
    ∃ v1' v2' n', exC (run M) k spec_l08Two.l2 (X2S R u2 u3 u6 u9 B s) = some (.normal, X2S R u2 u3 u6 u9 B ⟨s.i + 1, b', v1', v2', ic5, q5, n'⟩) := by
  obtain ⟨i, b, v1, v2, ic, q, n⟩ := s
  simp only at h1 hx hi h6
  have e3 : IntKind.i64.wrap ((i : Int) + 1) = (i : Int) + 1 := wrap_i64 (by omega) (by omega)
  have e4 : IntKind.i64.wrap (10 + (g : Int)) = 10 + (g : Int) := wrap_i64 (by omega) (by omega)
  have e7 : (b.mails.map encMail).length = b.mails.length := by simp
  have e8 := irow_length b.gone
  have e9 : (b'.mails.map encMail).length = b'.mails.length := by simp
  have e10 := irow_length b'.gone
  have e11 : (b.mails.map encMail).take b.mails.length = b.mails.map encMail := List.take_of_length_le (by omega)
  have e12 : (irow b.gone).take b.gone.length = irow b.gone := List.take_of_length_le (by omega)
  simp only [X2S, X2O, X2B]
  simp only [encBox, encBoxO, mails, ints] at h6
  generalize b'.mails.map encMail = rm' at *
  generalize irow b'.gone = rg' at *
  generalize b.mails.map encMail = rm at *
  generalize irow b.gone = rg at *
  simp (maxSteps := 1000000) [spec_l08Two.l2, List.range_succ, bs_get, setAt, h1, h2, h3, h4, h5, h6, hx, e3, e4, e7, e8, e9, e10, e11, e12]
set_option maxHeartbeats 4000000 in
theorem X2_take {R : List (List T)} (k u2 u3 u6 u9 : Nat) (B : OtB) (s : TwS) (ic1 ic2 ic3 ic4 x t w k4 g : Nat) (q1 q2 q3 q4 : Int) (b' : Box) (ok : Bool) (hi : s.i ≤ 6) (hg : g < 5)
    (h1 : run M 125 [.c (.ptr 0 0 0 0), .c (I 6)] [curD R s.ic s.q] = some (.c (I x), [curD R ic1 q1])) (hx : s.i < x)
    (h2 : run M 232 [.c (.ptr 0 0 0 0)] [curD R ic1 q1] = some (.a [I t, I w], [curD R ic2 q2]))
    (h3 : run M 125 [.c (.ptr 0 0 0 0), .c (I 4)] [curD R ic2 q2] = some (.c (I k4), [curD R ic3 q3])) (hk : 2 < k4)
    (h4 : run M 125 [.c (.ptr 0 0 0 0), .c (I 5)] [curD R ic3 q3] = some (.c (I g), [curD R ic4 q4]))
    (h6 : run M 86 [.a (encBox s.b), .c (I (10 + (g : Int)))] [] = some (.tup [.a (encBoxO b'), .c (.bool ok)], [])) :
    ∃ v1' v2' n', exC (run M) k spec_l08Two.l2 (X2S R u2 u3 u6 u9 B s) = some (.normal, X2S R u2 u3 u6 u9 B ⟨s.i + 1, b', v1', v2', ic4, q4, n'⟩) := by
  have d0 : ¬ k4 = 0 := by omega
  have d1 : ¬ k4 = 1 := by omega
  have d2 : ¬ k4 = 2 := by omega
  have f0 : ¬ (k4 : Int) = 0 := by omega
  have f1 : ¬ (k4 : Int) = 1 := by omega
  have f2 : ¬ (k4 : Int) = 2 := by omega
  obtain ⟨i, b, v1, v2, ic, q, n⟩ := s
  simp only at h1 hx hi h6
  have e3 : IntKind.i64.wrap ((i : Int) + 1) = (i : Int) + 1 := wrap_i64 (by omega) (by omega)
  have e4 : IntKind.i64.wrap (10 + (g : Int)) = 10 + (g : Int) := wrap_i64 (by omega) (by omega)
  have e7 : (b.mails.map encMail).length = b.mails.length := by simp
  have e8 := irow_length b.gone
  have e9 : (b'.mails.map encMail).length = b'.mails.length := by simp
  have e10 := irow_length b'.gone
  have e11 : (b.mails.map encMail).take b.mails.length = b.mails.map encMail := List.take_of_length_le (by omega)
  have e12 : (irow b.gone).take b.gone.length = irow b.gone := List.take_of_length_le (by omega)
  simp only [X2S, X2O, X2B]
  simp only [encBox, encBoxO, mails, ints] at h6
  generalize b'.mails.map encMail = rm' at *
  generalize irow b'.gone = rg' at *
  generalize b.mails.map encMail = rm at *
  generalize irow b.gone = rg at *
  simp (maxSteps := 1000000) [spec_l08Two.l2, List.range_succ, bs_get, setAt, h1, h2, h3, h4, h6, hx, d0, d1, d2, f0, f1, f2, e3, e4, e7, e8, e9, e10, e11, e12]
theorem X2_end {R : List (List T)} (k u2 u3 u6 u9 : Nat) (B : OtB) (s : TwS) (ic1 x : Nat) (q1 : Int)
    (h1 : run M 125 [.c (.ptr 0 0 0 0), .c (I 6)] [curD R s.ic s.q] = some (.c (I x), [curD R ic1 q1])) (hx : ¬ s.i < x) :
    ∃ n', exC (run M) k spec_l08Two.l2 (X2S R u2 u3 u6 u9 B s) = some (.exit 5, X2E R u2 u3 u6 u9 B { s with ic := ic1, q := q1, n := n' }) := by
  obtain ⟨i, b, v1, v2, ic, q, n⟩ := s
  simp only at h1 hx
  simp only [X2S, X2E, X2O, X2B]
  generalize b.mails.map encMail = rm at *
  generalize irow b.gone = rg at *
  simp (maxSteps := 1000000) [spec_l08Two.l2, List.range_succ, bs_get, setAt, h1, hx]
theorem X2_loop (K : TwK M) {R : List (List T)} (hR : Bytes R) (k u2 u3 u6 u9 : Nat) (B : OtB) (s : TwS) (hs : TwI R s) (hk : 7 ≤ k) :
    ∃ s', loopN (exC (run M) k spec_l08Two.l2) k (X2S R u2 u3 u6 u9 B s) = some (.exit 5, X2E R u2 u3 u6 u9 B s') ∧ TwI R s' := by
  obtain ⟨r, hr, s', rfl, hI⟩ := loop_ex (f := exC (run M) k spec_l08Two.l2) (X2S R u2 u3 u6 u9 B) (TwI R) (fun s => 6 - s.i) (fun r => ∃ s', r = (.exit 5, X2E R u2 u3 u6 u9 B s') ∧ TwI R s')
    (fun s hs => by
      obtain ⟨x, ic1, q1, hx, hc1, h1⟩ := spec_l01Below.says K.below hR s.ic s.q hs.c 6 (by omega) (by omega)
      simp only [Int.cast_ofNat_Int] at h1
      have hi := hs.i
      have hb := hs.b.good.inB
      by_cases c : s.i < x
      · left
        obtain ⟨t, w, ic2, q2, ht, hw1, hw2, hc2, h2⟩ := spec_l03Stamp.says K.stamp hR ic1 q1 hc1
        obtain ⟨k4, ic3, q3, hk4, hc3, h3⟩ := spec_l01Below.says K.below hR ic2 q2 hc2 4 (by omega) (by omega)
        simp only [Int.cast_ofNat_Int] at h3
        by_cases c1 : k4 ≤ 1
        · obtain ⟨f, ic4, q4, hf, hc4, h4⟩ := spec_l01Below.says K.below hR ic3 q3 hc3 8 (by omega) (by omega)
          simp only [Int.cast_ofNat_Int] at h4
          obtain ⟨tx, ic5, q5, htx, hc5, h5⟩ := spec_l05Text.says K.text hR ic4 q4 hc4
          have h6 := spec_AddMail.says K.add s.b hb (30 + (s.i : Int)) f tx t w
          obtain ⟨v1', v2', n', hh⟩ := X2_add k u2 u3 u6 u9 B s ic1 ic2 ic3 ic4 ic5 x t w k4 f tx q1 q2 q3 q4 q5 _ _ hi h1 c h2 h3 (by omega) h4 h5 h6
          exact ⟨_, hh, ⟨by simp only; omega, apart_add hs.b _ _ _ _ _, hc5⟩, by simp only; omega⟩
        · obtain ⟨g, ic4, q4, hg, hc4, h4⟩ := spec_l01Below.says K.below hR ic3 q3 hc3 5 (by omega) (by omega)
          simp only [Int.cast_ofNat_Int] at h4
          by_cases c2 : k4 = 2
          · subst c2
            obtain ⟨f, ic5, q5, hf, hc5, h5⟩ := spec_l01Below.says K.below hR ic4 q4 hc4 8 (by omega) (by omega)
            simp only [Int.cast_ofNat_Int] at h3 h5
            have h6 := spec_FlagMail.says K.flag s.b hb (10 + (g : Int)) f t w
            obtain ⟨v1', v2', n', hh⟩ := X2_flag k u2 u3 u6 u9 B s ic1 ic2 ic3 ic4 ic5 x t w g f q1 q2 q3 q4 q5 _ _ hi hg h1 c h2 h3 h4 h5 h6
            exact ⟨_, hh, ⟨by simp only; omega, apart_flag hs.b _ _ _ _, hc5⟩, by simp only; omega⟩
          · have h6 := spec_TakeOut.says K.take s.b hb (10 + (g : Int))
            obtain ⟨v1', v2', n', hh⟩ := X2_take k u2 u3 u6 u9 B s ic1 ic2 ic3 ic4 x t w k4 g q1 q2 q3 q4 _ _ hi hg h1 c h2 h3 (by omega) h4 h6
            exact ⟨_, hh, ⟨by simp only; omega, apart_take hs.b _, hc4⟩, by simp only; omega⟩
      · right
        obtain ⟨n', hh⟩ := X2_end (M := M) k u2 u3 u6 u9 B s ic1 x q1 h1 c
        exact ⟨_, hh, by simp, _, rfl, ⟨hs.i, hs.b, hc1⟩⟩) k s hs (by omega)
  exact ⟨s', hr, hI⟩
end Mx

namespace Mx
open Go
variable {M : Nat → Option Body}
theorem apart_first : Apart { gid := 7, name := [105, 110, 98, 111, 120], time := 1, who := 1, next := 1, mails := [], gone := [] } :=
  ⟨⟨by simp, by decide, by decide, by simp, by simp, List.Pairwise.nil, by simp, by simp, by simp, List.Pairwise.nil, List.Pairwise.nil⟩, rfl⟩
/-- perhaps a name and a stamp -/
def renm (z : Bool) (b : Box) (nm : List UInt8) (t w : Int) : Box := if z = true then { b with name := nm, time := t, who := w } else b
theorem apart_nm {b : Box} (h : Apart b) (z : Bool) {nm : List UInt8} (hn : nameOk nm = true) {t w : Nat} (ht : t < 12) (h1 : 1 ≤ w) (h2 : w ≤ 2) : Apart (renm z b nm t w) := by
  unfold renm
  split
  · refine apart_named h hn ?_
    simp only [stampOk, Bool.and_eq_true]
    exact ⟨inR_iff.2 ⟨by omega, by omega⟩, inR_iff.2 ⟨by omega, by omega⟩⟩
  · exact h
set_option maxHeartbeats 8000000 in
theorem spec_l08Two.says (h : spec_l08Two.k M) {R : List (List T)} (hR : Bytes R) (i : Nat) (q : Int) (hi : i ≤ R.length) :
    ∃ (x y : Box) (i' : Nat) (q' : Int), (Apart x ∧ Apart y) ∧ i' ≤ R.length ∧ run M 436 [.c (.ptr 0 0 0 0)] [curD R i q] = some (.tup [.a (encBoxO x), .a (encBoxO y)], [curD R i' q']) := by
  obtain ⟨h0, ka, kf, kt, kb, kx, ko, kc, ks⟩ := h
  have K : TwK M := ⟨ka, kf, kt, kb, kx, ks⟩
  obtain ⟨⟨i1, b1, c1, ic1, q1, n1⟩, r1, hI1⟩ := tz_loop K hR 20 2000000 2000016 2000064 ⟨0, _, false, i, q, 2000112⟩ ⟨by simp, apart_first, hi, fun _ => ⟨rfl, rfl⟩⟩ (by omega)
  obtain ⟨_, hb1, hc1, he1⟩ := hI1
  simp only at hb1 hc1 he1
  have hB1 := hb1.good.inB
  have h2 := spec_l06Copy.says kc b1 hB1
  obtain ⟨⟨i2, b2, v21, v22, ic2, q2, n2⟩, r2, hI2⟩ := X1_loop K hR 20 2000000 2000016 2000064 (n1 + 32) (tzB ⟨i1, b1, c1, ic1, q1, n1⟩) ⟨0, b1, n1 + 16 + 5, n1 + 16 + 6, ic1, q1, n1 + 64 + 16⟩ ⟨by simp, hb1, hc1⟩ (by omega)
  obtain ⟨_, hb2, hc2⟩ := hI2
  simp only at hb2 hc2
  obtain ⟨⟨i3, b3, v31, v32, ic3, q3, n3⟩, r3, hI3⟩ := X2_loop K hR 20 2000000 2000016 (n1 + 32) (n2 + 32) ⟨X1B ⟨i2, b2, v21, v22, ic2, q2, n2⟩, v21, v22, b2.mails.map encMail, irow b2.gone⟩ ⟨0, b1, n2 + 16 + 5, n2 + 16 + 6, ic2, q2, n2 + 64 + 16⟩ ⟨by simp, hb1, hc2⟩ (by omega)
  obtain ⟨_, hb3, hc3⟩ := hI3
  simp only at hb3 hc3
  obtain ⟨z4, ic4, q4, hc4, h4⟩ := spec_l01Once.says ko hR ic3 q3 hc3 3 (by omega) (by omega)
  simp only [Int.cast_ofNat_Int] at h4
  have hn5 : ∃ (t w ic5 : Nat) (q5 : Int), t < 12 ∧ 1 ≤ w ∧ w ≤ 2 ∧ ic5 ≤ R.length ∧ (z4 = true → run M 232 [.c (.ptr 0 0 0 0)] [curD R ic4 q4] = some (.a [I t, I w], [curD R ic5 q5])) ∧ (z4 = false → ic5 = ic4 ∧ q5 = q4) := by
    cases z4 with
    | true =>
      obtain ⟨t, w, ic5, q5, ht, hw1, hw2, hc5, h5⟩ := spec_l03Stamp.says ks hR ic4 q4 hc4
      exact ⟨t, w, ic5, q5, ht, hw1, hw2, hc5, (fun _ => h5), fun h => by cases h⟩
    | false => exact ⟨0, 1, ic4, q4, by omega, by omega, by omega, hc4, (fun h => by cases h), fun _ => ⟨rfl, rfl⟩⟩
  obtain ⟨t5, w5, ic5, q5, ht5, hw5, hw5', hc5, h5, h5'⟩ := hn5
  obtain ⟨z6, ic6, q6, hc6, h6⟩ := spec_l01Once.says ko hR ic5 q5 hc5 3 (by omega) (by omega)
  simp only [Int.cast_ofNat_Int] at h6
  have hn7 : ∃ (t w ic7 : Nat) (q7 : Int), t < 12 ∧ 1 ≤ w ∧ w ≤ 2 ∧ ic7 ≤ R.length ∧ (z6 = true → run M 232 [.c (.ptr 0 0 0 0)] [curD R ic6 q6] = some (.a [I t, I w], [curD R ic7 q7])) ∧ (z6 = false → ic7 = ic6 ∧ q7 = q6) := by
    cases z6 with
    | true =>
      obtain ⟨t, w, ic5, q5, ht, hw1, hw2, hc5, h5⟩ := spec_l03Stamp.says ks hR ic6 q6 hc6
      exact ⟨t, w, ic5, q5, ht, hw1, hw2, hc5, (fun _ => h5), fun h => by cases h⟩
    | false => exact ⟨0, 1, ic6, q6, by omega, by omega, by omega, hc6, (fun h => by cases h), fun _ => ⟨rfl, rfl⟩⟩
  obtain ⟨t7, w7, ic7, q7, ht7, hw7, hw7', hc7, h7, h7'⟩ := hn7
  refine ⟨renm z4 b2 [119, 111, 114, 107] t5 w5, renm z6 b3 [111, 108, 100] t7 w7, ic7, q7, ⟨apart_nm hb2 z4 (by decide) ht5 hw5 hw5', apart_nm hb3 z6 (by decide) ht7 hw7 hw7'⟩, hc7, run_code (b := spec_l08Two.m) h0 ⟨20, ?_⟩⟩
  simp only [tzS, tzE, tzO, X1S, X1E, X1O, X1B, X2S, X2E, X2O, X2B] at r1 r2 r3
  have ez : ((0 : Nat) : Int) = 0 := rfl
  simp only [ez] at r1 r2 r3
  have l1 : (b1.mails.map encMail).length = b1.mails.length := by simp
  have l2 := irow_length b1.gone
  have l3 : (b2.mails.map encMail).length = b2.mails.length := by simp
  have l4 := irow_length b2.gone
  have l5 : (b3.mails.map encMail).length = b3.mails.length := by simp
  have l6 := irow_length b3.gone
  have m2 : (b2.mails.map encMail).take b2.mails.length = b2.mails.map encMail := List.take_of_length_le (by omega)
  have m3 : (irow b2.gone).take b2.gone.length = irow b2.gone := List.take_of_length_le (by omega)
  have m4 : (b3.mails.map encMail).take b3.mails.length = b3.mails.map encMail := List.take_of_length_le (by omega)
  have m5 : (irow b3.gone).take b3.gone.length = irow b3.gone := List.take_of_length_le (by omega)
  simp only [renm]
  have hs : ∀ (rm rg : List (List T)), (c1 = true → rm = b1.mails.map encMail ∧ rg = irow b1.gone) → (c1 = false → b1.mails.map encMail = [] ∧ irow b1.gone = []) := fun _ _ _ e => by
    obtain ⟨em, eg⟩ := he1 e
    simp [em, eg, irow]
  have hs := hs (b1.mails.map encMail) (irow b1.gone) fun _ => ⟨rfl, rfl⟩
  simp only [encBox, encBoxO, mails, ints, tzB] at *
  generalize b1.mails.map encMail = rm1 at *
  generalize irow b1.gone = rg1 at *
  generalize hm2 : b2.mails.map encMail = rm2 at *
  generalize hg2 : irow b2.gone = rg2 at *
  generalize hm3 : b3.mails.map encMail = rm3 at *
  generalize hg3 : irow b3.gone = rg3 at *
  simp only [irow_nil, List.map_nil] at r1
  cases c1
  · obtain ⟨hs1, hs2⟩ := hs rfl
    subst hs1 hs2
    obtain ⟨em, eg⟩ := he1 rfl
    clear l1 l2
    simp only [Bool.false_eq_true, if_false, em, eg, List.length_nil] at r1 r2 r3
    cases z4
    · obtain ⟨rfl, rfl⟩ := h5' rfl
      cases z6
      · obtain ⟨rfl, rfl⟩ := h7' rfl
        simp (maxSteps := 1000000) [exB, spec_l08Two.m, spec_l08Two.b, List.range_succ, bs_get, setAt, r1, r2, r3, h2, h4, h6, l3, l4, l5, l6, m2, m3, m4, m5]
        exact ⟨⟨hm2.symm, hg2.symm⟩, hm3.symm, hg3.symm⟩
      · have h7 := h7 rfl
        simp (maxSteps := 1000000) [exB, spec_l08Two.m, spec_l08Two.b, List.range_succ, bs_get, setAt, r1, r2, r3, h2, h4, h6, h7, l3, l4, l5, l6, m2, m3, m4, m5]
        exact ⟨⟨hm2.symm, hg2.symm⟩, hm3.symm, hg3.symm⟩
    · have h5 := h5 rfl
      cases z6
      · obtain ⟨rfl, rfl⟩ := h7' rfl
        simp (maxSteps := 1000000) [exB, spec_l08Two.m, spec_l08Two.b, List.range_succ, bs_get, setAt, r1, r2, r3, h2, h4, h5, h6, l3, l4, l5, l6, m2, m3, m4, m5]
        exact ⟨⟨hm2.symm, hg2.symm⟩, hm3.symm, hg3.symm⟩
      · have h7 := h7 rfl
        simp (maxSteps := 1000000) [exB, spec_l08Two.m, spec_l08Two.b, List.range_succ, bs_get, setAt, r1, r2, r3, h2, h4, h5, h6, h7, l3, l4, l5, l6, m2, m3, m4, m5]
        exact ⟨⟨hm2.symm, hg2.symm⟩, hm3.symm, hg3.symm⟩
  · simp only [if_true, Bool.false_eq_true, if_false] at r1 r2 r3
    cases z4
    · obtain ⟨rfl, rfl⟩ := h5' rfl
      cases z6
      · obtain ⟨rfl, rfl⟩ := h7' rfl
        simp (maxSteps := 1000000) [exB, spec_l08Two.m, spec_l08Two.b, List.range_succ, bs_get, setAt, r1, r2, r3, h2, h4, h6, l1, l2, l3, l4, l5, l6, m2, m3, m4, m5]
        exact ⟨⟨hm2.symm, hg2.symm⟩, hm3.symm, hg3.symm⟩
      · have h7 := h7 rfl
        simp (maxSteps := 1000000) [exB, spec_l08Two.m, spec_l08Two.b, List.range_succ, bs_get, setAt, r1, r2, r3, h2, h4, h6, h7, l1, l2, l3, l4, l5, l6, m2, m3, m4, m5]
        exact ⟨⟨hm2.symm, hg2.symm⟩, hm3.symm, hg3.symm⟩
    · have h5 := h5 rfl
      cases z6
      · obtain ⟨rfl, rfl⟩ := h7' rfl
        simp (maxSteps := 1000000) [exB, spec_l08Two.m, spec_l08Two.b, List.range_succ, bs_get, setAt, r1, r2, r3, h2, h4, h5, h6, l1, l2, l3, l4, l5, l6, m2, m3, m4, m5]
        exact ⟨⟨hm2.symm, hg2.symm⟩, hm3.symm, hg3.symm⟩
      · have h7 := h7 rfl
        simp (maxSteps := 1000000) [exB, spec_l08Two.m, spec_l08Two.b, List.range_succ, bs_get, setAt, r1, r2, r3, h2, h4, h5, h6, h7, l1, l2, l3, l4, l5, l6, m2, m3, m4, m5]
        exact ⟨⟨hm2.symm, hg2.symm⟩, hm3.symm, hg3.symm⟩
end Mx

namespace Mx
open Go
theorem later_iff {t w u x : Int} : later t w u x = true ↔ u < t ∨ t = u ∧ x < w := by
  simp [later]
theorem later_not {t w u x : Int} : later t w u x = false ↔ ¬ (u < t ∨ t = u ∧ x < w) := by
  rw [← later_iff]; simp
theorem bless_self : ∀ a, bless a a = false
  | [] => rfl
  | x :: a => by simp [bless, bless_self a]
theorem bless_tri : ∀ a b, bless a b = true ∧ bless b a = false ∨ bless a b = false ∧ bless b a = true ∨ bless a b = false ∧ bless b a = false ∧ a = b
  | [], [] => by simp [bless]
  | [], _ :: _ => by simp [bless]
  | _ :: _, [] => by simp [bless]
  | x :: a, y :: b => by
    have ih := bless_tri a b
    simp only [bless]
    by_cases h1 : x < y
    · have h2 : ¬ y < x := by rw [UInt8.lt_iff_toNat_lt] at *; omega
      have h3 : (y == x) = false := by
        rw [beq_eq_false_iff_ne]; rintro rfl; exact h2 h1
      left; simp [h1, h2, h3]
    · by_cases h2 : y < x
      · have h3 : (x == y) = false := by
          rw [beq_eq_false_iff_ne]; rintro rfl; exact h1 h2
        right; left; simp [h1, h2, h3]
      · have h3 : x = y := by
          rw [← UInt8.toNat_inj]; rw [UInt8.lt_iff_toNat_lt] at *; omega
        subst h3
        simpa [h1] using ih
theorem joinGone_comm (a b : List Int) : joinGone a b = joinGone b a :=
  asc_ext (joinGone_asc a b) (joinGone_asc b a) fun z => by rw [joinGone_mem, joinGone_mem, or_comm]
end Mx

namespace Mx
open Go
variable {M : Nat → Option Body}
theorem impl_JoinReg.says (h : impl_JoinReg.k M) (a b : Reg) : run M 485 [.a (encReg a), .a (encReg b)] [] = some (.a (encReg (joinReg a b)), []) := by
  obtain ⟨h0, k1⟩ := h
  have h1 := impl_Later.says k1 b.time b.who a.time a.who
  have h2 := impl_Later.says k1 a.time a.who b.time b.who
  refine run_code (b := impl_JoinReg.m) h0 ⟨0, ?_⟩
  unfold joinReg
  generalize later b.time b.who a.time a.who = x at *
  generalize later a.time a.who b.time b.who = y at *
  by_cases c : a.val < b.val
  · cases x <;> cases y <;> simp (maxSteps := 1000000) [exB, impl_JoinReg.m, impl_JoinReg.b, List.range_succ, bs_get, setAt, h1, h2, encReg, c]
  · cases x <;> cases y <;> simp (maxSteps := 1000000) [exB, impl_JoinReg.m, impl_JoinReg.b, List.range_succ, bs_get, setAt, h1, h2, encReg, c]
theorem joinReg_spec (a b : Reg) : joinReg a b = if later a.time a.who b.time b.who = true ∨ (a.time = b.time ∧ a.who = b.who) ∧ b.val ≤ a.val then a else b := by
  unfold joinReg
  simp only [later_iff, later_not]
  by_cases h1 : a.time < b.time ∨ b.time = a.time ∧ a.who < b.who
  · rw [if_pos (.inl h1), if_neg (by omega)]
  · by_cases h2 : b.time < a.time ∨ a.time = b.time ∧ b.who < a.who
    · rw [if_neg (by omega), if_pos (.inl h2)]
    · by_cases h3 : a.val < b.val
      · rw [if_pos (.inr ⟨h2, h3⟩), if_neg (by omega)]
      · rw [if_neg (by omega), if_pos (by omega)]
set_option maxHeartbeats 1000000 in
theorem spec_JoinReg.says (h : spec_JoinReg.k M) (a b : Reg) : run M 488 [.a (encReg a), .a (encReg b)] [] = some (.a (encReg (joinReg a b)), []) := by
  obtain ⟨h0, k1⟩ := h
  have h2 := spec_Later.says k1 a.time a.who b.time b.who
  refine run_code (b := spec_JoinReg.m) h0 ⟨0, ?_⟩
  rw [joinReg_spec]
  obtain ⟨av, t, w⟩ := a
  obtain ⟨bv, u, x⟩ := b
  simp only at *
  generalize later t w u x = y at *
  by_cases c2 : t = u
  · subst c2
    by_cases c3 : w = x
    · subst c3
      by_cases c : bv ≤ av <;> cases y <;> simp (maxSteps := 1000000) [exB, spec_JoinReg.m, spec_JoinReg.b, List.range_succ, bs_get, setAt, h2, encReg, c]
    · cases y <;> simp (maxSteps := 1000000) [exB, spec_JoinReg.m, spec_JoinReg.b, List.range_succ, bs_get, setAt, h2, encReg, c3]
  · cases y <;> simp (maxSteps := 1000000) [exB, spec_JoinReg.m, spec_JoinReg.b, List.range_succ, bs_get, setAt, h2, encReg, c2]
theorem joinFlags_len (a b : List Reg) : (joinFlags a b).length = Min.min a.length b.length := by simp [joinFlags]
def jfS (a b : List Reg) (i : Nat) (x : Nat × Nat) : St := { t := [(0, .c (regs a)), (1, .c (regs b)), (5, .c (.row 7 x.1 0 i)), (6, .c (I i))], o := [(7, ⟨x.1, 3, true, false, ((joinFlags a b).take i).map encReg⟩)], n := x.2 }
def jfE (a b : List Reg) (x : Nat × Nat) : St := { t := [(0, .c (regs a)), (1, .c (regs b)), (5, .c (.row 7 x.1 0 (Min.min a.length b.length))), (6, .c (I (Min.min a.length b.length : Nat))), (17, .c (.bool false))], o := [(7, ⟨x.1, 3, true, false, ((joinFlags a b).take (Min.min a.length b.length)).map encReg⟩)], n := x.2 }
theorem impl_JoinFlags.says (h : impl_JoinFlags.k M) (a b : List Reg) (ha : a.length ≤ 1048576) (hb : b.length ≤ 1048576) : run M 470 [.c (regs a), .c (regs b)] [] = some (.c (.sl true 3 ((joinFlags a b).map encReg)), []) := by
  obtain ⟨h0, k1⟩ := h
  refine run_code (b := impl_JoinFlags.m) h0 ⟨Min.min a.length b.length + 1, ?_⟩
  have hlen := joinFlags_len a b
  obtain ⟨g, hr⟩ := count_loop (f := exC (run M) (Min.min a.length b.length + 1) impl_JoinFlags.l0) (Min.min a.length b.length) (jfS a b) 0 (jfE a b)
    (fun i hi x => by
      obtain ⟨v, n⟩ := x
      have hia : i < a.length := by omega
      have hib : i < b.length := by omega
      have h1 := impl_JoinReg.says k1 a[i] b[i]
      have e5 : IntKind.i64.wrap ((i : Int) + 1) = (i : Int) + 1 := wrap_i64 (by omega) (by omega)
      have e6 : i + 1 ≤ 4294967296 := by omega
      have e7 : (((joinFlags a b).take i).map encReg).length = i := by simp [hlen]; omega
      have e8 : (((joinFlags a b).take (i + 1)).map encReg) = ((joinFlags a b).take i).map encReg ++ [encReg (joinReg a[i] b[i])] := by
        rw [take_snoc _ _ (by rw [hlen]; exact hi), List.map_append]; simp [joinFlags]
      simp only [jfS, e8, Prod.exists]
      generalize ((joinFlags a b).take i).map encReg = rr at *
      simp only [encReg] at h1
      simp (maxSteps := 1000000) [impl_JoinFlags.l0, List.range_succ, bs_get, setAt, regs, hia, hib, h1, e5, e6, e7, encReg, List.take_of_length_le])
    (fun x => by
      obtain ⟨v, n⟩ := x
      simp only [Prod.exists]
      by_cases c : a.length ≤ b.length
      · have e : Min.min a.length b.length = a.length := by omega
        simp only [jfS, jfE, e]
        simp (maxSteps := 1000000) [impl_JoinFlags.l0, List.range_succ, bs_get, setAt, regs]
      · have e : Min.min a.length b.length = b.length := by omega
        have c2 : b.length < a.length := by omega
        simp only [jfS, jfE, e]
        simp (maxSteps := 1000000) [impl_JoinFlags.l0, List.range_succ, bs_get, setAt, regs, c2])
  have hr0 := hr (2000016, 2000064)
  obtain ⟨v, n⟩ := g (2000016, 2000064)
  have e9 : (joinFlags a b).take (Min.min a.length b.length) = joinFlags a b := List.take_of_length_le (by omega)
  have e10 : ((joinFlags a b).map encReg).length = Min.min a.length b.length := by simp [hlen]
  simp only [jfS, jfE, e9, List.take_zero, List.map_nil] at hr0
  generalize (joinFlags a b).map encReg = rr at *
  generalize Min.min a.length b.length = k at *
  simp at hr0
  simp (maxSteps := 1000000) [exB, impl_JoinFlags.m, impl_JoinFlags.b, List.range_succ, bs_get, setAt, hr0, e10, List.take_of_length_le]
theorem spec_JoinFlags.says (h : spec_JoinFlags.k M) (a b : List Reg) (ha : a.length ≤ 1048576) (hb : b.length ≤ 1048576) : run M 472 [.c (regs a), .c (regs b)] [] = some (.c (.sl true 3 ((joinFlags a b).map encReg)), []) := by
  obtain ⟨h0, k1⟩ := h
  refine run_code (b := spec_JoinFlags.m) h0 ⟨Min.min a.length b.length + 1, ?_⟩
  have hlen := joinFlags_len a b
  obtain ⟨g, hr⟩ := count_loop (f := exC (run M) (Min.min a.length b.length + 1) spec_JoinFlags.l0) (Min.min a.length b.length) (jfS a b) 0 (jfE a b)
    (fun i hi x => by
      obtain ⟨v, n⟩ := x
      have hia : i < a.length := by omega
      have hib : i < b.length := by omega
      have h1 := spec_JoinReg.says k1 a[i] b[i]
      have e5 : IntKind.i64.wrap ((i : Int) + 1) = (i : Int) + 1 := wrap_i64 (by omega) (by omega)
      have e6 : i + 1 ≤ 4294967296 := by omega
      have e7 : (((joinFlags a b).take i).map encReg).length = i := by simp [hlen]; omega
      have e8 : (((joinFlags a b).take (i + 1)).map encReg) = ((joinFlags a b).take i).map encReg ++ [encReg (joinReg a[i] b[i])] := by
        rw [take_snoc _ _ (by rw [hlen]; exact hi), List.map_append]; simp [joinFlags]
      simp only [jfS, e8, Prod.exists]
      generalize ((joinFlags a b).take i).map encReg = rr at *
      simp only [encReg] at h1
      simp (maxSteps := 1000000) [spec_JoinFlags.l0, List.range_succ, bs_get, setAt, regs, hia, hib, h1, e5, e6, e7, encReg, List.take_of_length_le])
    (fun x => by
      obtain ⟨v, n⟩ := x
      simp only [Prod.exists]
      by_cases c : a.length ≤ b.length
      · have e : Min.min a.length b.length = a.length := by omega
        simp only [jfS, jfE, e]
        simp (maxSteps := 1000000) [spec_JoinFlags.l0, List.range_succ, bs_get, setAt, regs]
      · have e : Min.min a.length b.length = b.length := by omega
        have c2 : b.length < a.length := by omega
        simp only [jfS, jfE, e]
        simp (maxSteps := 1000000) [spec_JoinFlags.l0, List.range_succ, bs_get, setAt, regs, c2])
  have hr0 := hr (2000016, 2000064)
  obtain ⟨v, n⟩ := g (2000016, 2000064)
  have e9 : (joinFlags a b).take (Min.min a.length b.length) = joinFlags a b := List.take_of_length_le (by omega)
  have e10 : ((joinFlags a b).map encReg).length = Min.min a.length b.length := by simp [hlen]
  simp only [jfS, jfE, e9, List.take_zero, List.map_nil] at hr0
  generalize (joinFlags a b).map encReg = rr at *
  generalize Min.min a.length b.length = k at *
  simp at hr0
  simp (maxSteps := 1000000) [exB, spec_JoinFlags.m, spec_JoinFlags.b, List.range_succ, bs_get, setAt, hr0, e10, List.take_of_length_le]
theorem bless_gtr (a b : List UInt8) : (!bless b a && !decide (b = a)) = bless a b := by
  rcases bless_tri a b with ⟨h1, h2⟩ | ⟨h1, h2⟩ | ⟨h1, h2, h3⟩
  · have : ¬ b = a := by rintro rfl; rw [bless_self] at h1; cases h1
    simp [h1, h2, this]
  · simp [h1, h2]
  · simp [h3, bless_self]
theorem joinMail_flags (a b : Mail) : (joinMail a b).flags.length ≤ a.flags.length := by
  unfold joinMail
  split
  · simp only [joinFlags_len]; omega
  · exact Nat.le_refl _
theorem impl_JoinMail.says (h : impl_JoinMail.k M) (a b : Mail) (ha : a.flags.length ≤ 1048576) (hb : b.flags.length ≤ 1048576) : run M 452 [.a (encMail a), .a (encMail b)] [] = some (.a (encMailO (joinMail a b)), []) := by
  obtain ⟨h0, k1, k2⟩ := h
  have h1 := impl_copyMail.says k1 a ha
  have h2 := impl_JoinFlags.says k2 a.flags b.flags ha hb
  refine run_code (b := impl_JoinMail.m) h0 ⟨0, ?_⟩
  unfold joinMail
  by_cases c : a.gid = b.gid
  · rw [if_pos c]
    simp only [encMail, encMailO, regs, maxT] at *
    have e1 : ((joinFlags a.flags b.flags).map encReg).length = (joinFlags a.flags b.flags).length := by simp
    generalize (joinFlags a.flags b.flags).map encReg = rf at *
    generalize a.flags.map encReg = ra at *
    generalize b.flags.map encReg = rb at *
    have e2 : Max.max a.uid b.uid = if b.uid > a.uid then b.uid else a.uid := by split <;> omega
    rw [e2]
    by_cases c2 : a.uid < b.uid
    · cases c3 : bless a.text b.text <;> simp (maxSteps := 1000000) [exB, impl_JoinMail.m, impl_JoinMail.b, List.range_succ, bs_get, setAt, h2, c, c2, c3, e1, max2, List.take_of_length_le]
    · cases c3 : bless a.text b.text <;> simp (maxSteps := 1000000) [exB, impl_JoinMail.m, impl_JoinMail.b, List.range_succ, bs_get, setAt, h2, c, c2, c3, e1, max2, List.take_of_length_le]
  · rw [if_neg c]
    have e1 : (a.flags.map encReg).length = a.flags.length := by simp
    simp only [encMail, encMailO, regs] at *
    generalize a.flags.map encReg = ra at *
    generalize b.flags.map encReg = rb at *
    simp (maxSteps := 1000000) [exB, impl_JoinMail.m, impl_JoinMail.b, List.range_succ, bs_get, setAt, h1, c, e1, List.take_of_length_le]
set_option maxHeartbeats 1000000 in
theorem spec_JoinMail.says (h : spec_JoinMail.k M) (a b : Mail) (ha : a.flags.length ≤ 1048576) (hb : b.flags.length ≤ 1048576) : run M 461 [.a (encMail a), .a (encMail b)] [] = some (.a (encMailO (joinMail a b)), []) := by
  obtain ⟨h0, k1, k2⟩ := h
  have h1 := spec_l05Copy.says k1 a ha
  have h2 := spec_JoinFlags.says k2 a.flags b.flags ha hb
  refine run_code (b := spec_JoinMail.m) h0 ⟨0, ?_⟩
  unfold joinMail
  by_cases c : a.gid = b.gid
  · rw [if_pos c]
    simp only [encMail, encMailO, regs, maxT] at *
    have e1 : ((joinFlags a.flags b.flags).map encReg).length = (joinFlags a.flags b.flags).length := by simp
    have e3 : (a.flags.map encReg).length = a.flags.length := by simp
    generalize (joinFlags a.flags b.flags).map encReg = rf at *
    generalize a.flags.map encReg = ra at *
    generalize b.flags.map encReg = rb at *
    have e2 : Max.max a.uid b.uid = if a.uid < b.uid then b.uid else a.uid := by split <;> omega
    rw [e2]
    rw [c] at h1
    have e4 := bless_gtr a.text b.text
    by_cases c2 : a.uid < b.uid
    · cases c3 : bless a.text b.text <;> simp (maxSteps := 1000000) [exB, spec_JoinMail.m, spec_JoinMail.b, List.range_succ, bs_get, setAt, h1, h2, c, c2, c3, e1, e3, e4, List.take_of_length_le]
    · cases c3 : bless a.text b.text <;> simp (maxSteps := 1000000) [exB, spec_JoinMail.m, spec_JoinMail.b, List.range_succ, bs_get, setAt, h1, h2, c, c2, c3, e1, e3, e4, List.take_of_length_le]
  · rw [if_neg c]
    have e1 : (a.flags.map encReg).length = a.flags.length := by simp
    simp only [encMail, encMailO, regs] at *
    generalize a.flags.map encReg = ra at *
    generalize b.flags.map encReg = rb at *
    simp (maxSteps := 1000000) [exB, spec_JoinMail.m, spec_JoinMail.b, List.range_succ, bs_get, setAt, h1, c, e1, List.take_of_length_le]
end Mx

namespace Mx
open Go
variable {M : Nat → Option Body}
def cmpI (x y : Int) : Int := if x < y then -1 else if y < x then 1 else 0
theorem cmpI_neg {x y : Int} : cmpI x y < 0 ↔ x < y := by unfold cmpI; split <;> (try split) <;> omega
theorem impl_compare.says (h : impl_compare.k M) (x y : Int) : run M 457 [.c (I x), .c (I y)] [] = some (.c (I (cmpI x y)), []) := by
  refine run_code (b := impl_compare.m) h ⟨0, ?_⟩
  unfold cmpI
  by_cases c : x < y
  · simp (maxSteps := 1000000) [exB, impl_compare.m, impl_compare.b, List.range_succ, bs_get, setAt, c]
  · by_cases c2 : y < x
    · simp (maxSteps := 1000000) [exB, impl_compare.m, impl_compare.b, List.range_succ, bs_get, setAt, c, c2]
    · simp (maxSteps := 1000000) [exB, impl_compare.m, impl_compare.b, List.range_succ, bs_get, setAt, c, c2]
theorem impl_joined_2.says (h : impl_joined_2.k M) (x y : Mail) : run M 456 [.a (encMail x), .a (encMail y)] [] = some (.c (I (cmpI x.gid y.gid)), []) := by
  have h1 := impl_compare.says h.2 x.gid y.gid
  refine run_code (b := impl_joined_2.m) h.1 ⟨0, ?_⟩
  simp (maxSteps := 1000000) [exB, impl_joined_2.m, impl_joined_2.b, List.range_succ, bs_get, setAt, h1, encMail]
theorem impl_joined_3.says (h : impl_joined_3.k M) (x y : Mail) : run M 458 [.a (encMail x), .a (encMail y)] [] = some (.c (I (cmpI x.uid y.uid)), []) := by
  have h1 := impl_compare.says h.2 x.uid y.uid
  refine run_code (b := impl_joined_3.m) h.1 ⟨0, ?_⟩
  simp (maxSteps := 1000000) [exB, impl_joined_3.m, impl_joined_3.b, List.range_succ, bs_get, setAt, h1, encMail]
/-- what comes behind an insertion from the right -/
theorem insBy_step {α : Type} {k : α → Int} (P : List α) (y x : α) (Q : List α) (h : k x < k y) : insBy k (P ++ [y]) x ++ Q = insBy k P x ++ (y :: Q) := by
  have h1 : ¬ k y ≤ k x := by omega
  simp [insBy, List.filter_append, h, h1]
theorem insBy_stop {α : Type} {k : α → Int} (P : List α) (x : α) (h : ∀ y ∈ P, k y ≤ k x) : insBy k P x = P ++ [x] := by
  have h1 : P.filter (fun z => decide (k z ≤ k x)) = P := List.filter_eq_self.2 fun y hy => by simpa using h y hy
  have h2 : P.filter (fun z => decide (k x < k z)) = [] := List.filter_eq_nil_iff.2 fun y hy => by have := h y hy; simp; omega
  simp [insBy, h1, h2]
structure IsS where
  j : Nat
  D : List Mail
  n : Nat
def isS (f N i : Nat) (Z : List (List T)) (s : IsS) : St := { t := [(0, .c (.row 0 0 0 N)), (1, .c (I 0)), (2, .c (I N)), (3, .c (.fn f [])), (8, .c (I i)), (9, .c (I s.j))], o := [(0, ⟨0, 4, true, false, s.D.map encMail ++ Z⟩)], n := s.n }
def isE (f N i : Nat) (Z : List (List T)) (s : IsS) : St := { t := [(0, .c (.row 0 0 0 N)), (1, .c (I 0)), (2, .c (I N)), (3, .c (.fn f [])), (8, .c (I i)), (9, .c (I s.j)), (34, .c (.bool false))], o := [(0, ⟨0, 4, true, false, s.D.map encMail ++ Z⟩)], n := s.n }
structure IsI (k : Mail → Int) (N : Nat) (R : List Mail) (s : IsS) : Prop where
  len : s.D.length = N
  lt : s.j < N
  e : ∃ P x Q, P.length = s.j ∧ s.D = P ++ x :: Q ∧ SortedBy k P ∧ insBy k P x ++ Q = R
theorem map_at {α β : Type} {f : α → β} {P Q : List α} {x : α} {l : List β} (h : l = (P ++ x :: Q).map f) (i : Nat) (hi : i = P.length) : ∀ hh, l[i]'hh = f x := by
  subst h; subst hi; intro hh; simp
set_option maxHeartbeats 2000000 in
theorem is_swap {f : Nat} {g u g' u' : Int} {fl fl' : List (List T)} {tx tx' : List UInt8} {c : Int}
    (hcmp : run M f [.a [I g, I u, .sl false 3 fl, S tx], .a [I g', I u', .sl false 3 fl', S tx']] [] = some (.c (I c), [])) (hc : c < 0) (m N i j p : Nat) (hN : N ≤ 1048576) (rr : List (List T)) (e1 : IntKind.i64.wrap ((j : Int) - 1) = (p : Int)) (hj : j < N) (hp : p < N) (h0 : 0 < j) (e2 : j < rr.length) (e3 : p < rr.length) (hne : ¬ j = p) (hne' : ¬ p = j)
    (a1 : ∀ hh, rr[p]'hh = [I g', I u', .sl false 3 fl', S tx']) (a2 : ∀ hh, rr[j]'hh = [I g, I u, .sl false 3 fl, S tx]) (n : Nat) :
    ∃ n', exC (run M) m slices_insertionSortCmpFunc_impl_Mail.l1 { t := [(0, .c (.row 0 0 0 N)), (1, .c (I 0)), (2, .c (I N)), (3, .c (.fn f [])), (8, .c (I i)), (9, .c (I j))], o := [(0, ⟨0, 4, true, false, rr⟩)], n := n } =
      some (.normal, { t := [(0, .c (.row 0 0 0 N)), (1, .c (I 0)), (2, .c (I N)), (3, .c (.fn f [])), (8, .c (I i)), (9, .c (I p))], o := [(0, ⟨0, 4, true, false, (rr.set j [I g', I u', .sl false 3 fl', S tx']).set p [I g, I u, .sl false 3 fl, S tx]⟩)], n := n' }) := by
  simp (maxSteps := 1000000) [slices_insertionSortCmpFunc_impl_Mail.l1, List.range_succ, bs_get, setAt, hcmp, hc, a1, a2, e1, e2, e3, hj, hp, h0, hne, hne']
set_option maxHeartbeats 2000000 in
theorem is_stop {f : Nat} {g u g' u' : Int} {fl fl' : List (List T)} {tx tx' : List UInt8} {c : Int}
    (hcmp : run M f [.a [I g, I u, .sl false 3 fl, S tx], .a [I g', I u', .sl false 3 fl', S tx']] [] = some (.c (I c), [])) (hc : ¬ c < 0) (m N i j p : Nat) (hN : N ≤ 1048576) (rr : List (List T)) (e1 : IntKind.i64.wrap ((j : Int) - 1) = (p : Int)) (hj : j < N) (hp : p < N) (h0 : 0 < j) (e2 : j < rr.length) (e3 : p < rr.length) (hne : ¬ j = p) (hne' : ¬ p = j)
    (a1 : ∀ hh, rr[p]'hh = [I g', I u', .sl false 3 fl', S tx']) (a2 : ∀ hh, rr[j]'hh = [I g, I u, .sl false 3 fl, S tx]) (n : Nat) :
    ∃ n', exC (run M) m slices_insertionSortCmpFunc_impl_Mail.l1 { t := [(0, .c (.row 0 0 0 N)), (1, .c (I 0)), (2, .c (I N)), (3, .c (.fn f [])), (8, .c (I i)), (9, .c (I j))], o := [(0, ⟨0, 4, true, false, rr⟩)], n := n } =
      some (.exit 2, { t := [(0, .c (.row 0 0 0 N)), (1, .c (I 0)), (2, .c (I N)), (3, .c (.fn f [])), (8, .c (I i)), (9, .c (I j)), (34, .c (.bool false))], o := [(0, ⟨0, 4, true, false, rr⟩)], n := n' }) := by
  simp (maxSteps := 1000000) [slices_insertionSortCmpFunc_impl_Mail.l1, List.range_succ, bs_get, setAt, hcmp, hc, a1, a2, e1, e2, e3, hj, hp, h0, hne, hne']
theorem is_nil {f : Nat} (m N i : Nat) (rr : List (List T)) (n : Nat) :
    ∃ n', exC (run M) m slices_insertionSortCmpFunc_impl_Mail.l1 { t := [(0, .c (.row 0 0 0 N)), (1, .c (I 0)), (2, .c (I N)), (3, .c (.fn f [])), (8, .c (I i)), (9, .c (I 0))], o := [(0, ⟨0, 4, true, false, rr⟩)], n := n } =
      some (.exit 2, { t := [(0, .c (.row 0 0 0 N)), (1, .c (I 0)), (2, .c (I N)), (3, .c (.fn f [])), (8, .c (I i)), (9, .c (I 0)), (34, .c (.bool false))], o := [(0, ⟨0, 4, true, false, rr⟩)], n := n' }) := by
  simp (maxSteps := 1000000) [slices_insertionSortCmpFunc_impl_Mail.l1, List.range_succ, bs_get, setAt]
theorem set_swap {α β : Type} (e : α → β) (P : List α) (x y : α) (Q : List α) : (((P ++ y :: x :: Q).map e).set (P.length + 1) (e y)).set P.length (e x) = (P ++ x :: y :: Q).map e := by
  apply List.ext_getElem
  · simp
  · intro q h1 h2
    simp only [List.getElem_set, List.map_append, List.map_cons, List.getElem_append, List.length_map]
    by_cases q1 : P.length = q
    · subst q1; simp
    · by_cases q2 : P.length + 1 = q
      · subst q2; have q4 : ¬ P.length + 1 < P.length := by omega
        have q5 : P.length + 1 - P.length = 1 := by omega
        simp [q4, q5]
      · by_cases q3 : q < P.length
        · simp [q1, q2, q3]
        · obtain ⟨w, rfl⟩ : ∃ w, q = P.length + 2 + w := ⟨q - P.length - 2, by omega⟩
          have : P.length + 2 + w - P.length = w + 2 := by omega
          simp [q1, q2, q3, this]
theorem is_turn {f : Nat} {k : Mail → Int} (hf : ∀ x y : Mail, run M f [.a (encMail x), .a (encMail y)] [] = some (.c (I (cmpI (k x) (k y))), [])) (m N i : Nat) (hN : N ≤ 1048576) (Z : List (List T)) (R : List Mail) (s : IsS) (hs : IsI k N R s) :
    (∃ s', exC (run M) m slices_insertionSortCmpFunc_impl_Mail.l1 (isS f N i Z s) = some (.normal, isS f N i Z s') ∧ IsI k N R s' ∧ s'.j < s.j) ∨
      (∃ r, exC (run M) m slices_insertionSortCmpFunc_impl_Mail.l1 (isS f N i Z s) = some r ∧ r.1 ≠ .normal ∧ ∃ s', r = (.exit 2, isE f N i Z s') ∧ s'.D = R) := by
  obtain ⟨j, D, n⟩ := s
  obtain ⟨hl, hj, P, x, Q, hP, hD, hsort, hR⟩ := hs
  simp only at hl hj hP hD
  rcases List.eq_nil_or_concat P with rfl | ⟨P', y, rfl⟩
  · right
    have hj0 : j = 0 := by simpa using hP.symm
    subst hj0
    obtain ⟨n', hh⟩ := is_nil (M := M) (f := f) m N i (D.map encMail ++ Z) n
    exact ⟨_, hh, by simp, ⟨0, D, n'⟩, rfl, by rw [← hR, hD]; simp [insBy]⟩
  · rw [List.concat_eq_append] at hP hD hsort hR
    have hlen : j = P'.length + 1 := by simpa using hP.symm
    have hDm : D.map encMail = (P' ++ y :: (x :: Q)).map encMail := by rw [hD]; simp
    have hDm2 : D.map encMail = ((P' ++ [y]) ++ x :: Q).map encMail := by rw [hD]
    have a1 : ∀ hh, (D.map encMail ++ Z)[P'.length]'hh = encMail y := by
      intro hh
      rw [List.getElem_append_left (by simp; omega)]
      exact map_at hDm P'.length rfl _
    have a2 : ∀ hh, (D.map encMail ++ Z)[j]'hh = encMail x := by
      intro hh
      rw [List.getElem_append_left (by simp; omega)]
      exact map_at hDm2 j (by simp [hlen]) _
    have hcmp := hf x y
    have e1 : IntKind.i64.wrap ((j : Int) - 1) = (P'.length : Int) := by rw [wrap_i64 (by omega) (by omega)]; omega
    by_cases c : k x < k y
    · left
      obtain ⟨n', hh⟩ := is_swap hcmp (cmpI_neg.2 c) m N i j P'.length hN (D.map encMail ++ Z) e1 hj (by omega) (by omega) (by simp; omega) (by simp; omega) (by omega) (by omega) a1 a2 n
      refine ⟨⟨P'.length, P' ++ x :: (y :: Q), n'⟩, ?_, ⟨by simp only; rw [hD] at hl; simp at hl ⊢; omega, by simp only; omega, P', x, y :: Q, rfl, rfl, (List.pairwise_append.1 hsort).1, by rw [← hR, insBy_step _ _ _ _ c]⟩, by simp only; omega⟩
      have hs := set_swap encMail P' x y Q
      simp only [isS]
      rw [← hs, ← hDm, ← hlen]
      rw [List.set_append_left _ _ (by simp; omega), List.set_append_left _ _ (by simp; omega)] at hh
      exact hh
    · right
      obtain ⟨n', hh⟩ := is_stop hcmp (fun q => c (cmpI_neg.1 q)) m N i j P'.length hN (D.map encMail ++ Z) e1 hj (by omega) (by omega) (by simp; omega) (by simp; omega) (by omega) (by omega) a1 a2 n
      refine ⟨_, hh, by simp, ⟨j, D, n'⟩, rfl, ?_⟩
      simp only
      rw [hD, ← hR, insBy_stop]
      · simp
      · intro z hz
        rcases List.mem_append.1 hz with q | q
        · have := (List.pairwise_append.1 hsort).2.2 z q y (by simp); omega
        · simp at q; subst q; omega
/-- the first i are in order -/
def sortTo (k : Mail → Int) (l : List Mail) (i : Nat) : List Mail := sortBy k (l.take i) ++ l.drop i
theorem sortTo_len (k : Mail → Int) (l : List Mail) (i : Nat) : (sortTo k l i).length = l.length := by
  simp only [sortTo, List.length_append, sortBy_len, List.length_take, List.length_drop]; omega
structure ItS where
  i : Nat
  n : Nat
def itS (f : Nat) (Z : List (List T)) (k : Mail → Int) (l : List Mail) (s : ItS) : St := { t := [(0, .c (.row 0 0 0 l.length)), (1, .c (I 0)), (2, .c (I l.length)), (3, .c (.fn f [])), (8, .c (I s.i))], o := [(0, ⟨0, 4, true, false, (sortTo k l s.i).map encMail ++ Z⟩)], n := s.n }
theorem it_turn {f : Nat} {k : Mail → Int} (hf : ∀ x y : Mail, run M f [.a (encMail x), .a (encMail y)] [] = some (.c (I (cmpI (k x) (k y))), [])) (m : Nat) (Z : List (List T)) (l : List Mail) (hN : l.length ≤ 1048576) (hm : l.length < m) (s : ItS) (hs : 1 ≤ s.i ∧ s.i < l.length) :
    ∃ n', exC (run M) m slices_insertionSortCmpFunc_impl_Mail.l0 (itS f Z k l s) = some (.normal, itS f Z k l ⟨s.i + 1, n'⟩) := by
  obtain ⟨i, n⟩ := s
  obtain ⟨h1, h2⟩ := hs
  simp only at h1 h2
  have htk : l.take (i + 1) = l.take i ++ [l[i]] := take_snoc l i h2
  have hdr : l.drop i = l[i] :: l.drop (i + 1) := List.drop_eq_getElem_cons h2
  have hR : insBy k (sortBy k (l.take i)) l[i] ++ l.drop (i + 1) = sortTo k l (i + 1) := by
    simp only [sortTo, htk]
    congr 1
    unfold sortBy
    rw [List.foldl_append]; rfl
  obtain ⟨r, hr, ⟨⟨j, D, n'⟩, rfl, hD⟩⟩ := loop_ex (f := exC (run M) m slices_insertionSortCmpFunc_impl_Mail.l1) (isS f l.length i Z) (IsI k l.length (sortTo k l (i + 1))) (fun s => s.j)
    (fun r => ∃ s', r = (.exit 2, isE f l.length i Z s') ∧ s'.D = sortTo k l (i + 1)) (fun s hs => is_turn hf m l.length i hN Z _ s hs) m ⟨i, sortTo k l i, n + 48 + 32⟩
    ⟨sortTo_len k l i, h2, sortBy k (l.take i), l[i], l.drop (i + 1), by rw [sortBy_len]; simp; omega, by simp only [sortTo, hdr], sortBy_sorted _, hR⟩ (by simp only; omega)
  simp only at hD
  subst hD
  simp only [isS, isE] at hr
  have e5 : IntKind.i64.wrap ((i : Int) + 1) = (i : Int) + 1 := wrap_i64 (by omega) (by omega)
  simp only [itS]
  generalize (sortTo k l i).map encMail ++ Z = r0 at *
  generalize (sortTo k l (i + 1)).map encMail ++ Z = r1 at *
  simp (maxSteps := 1000000) [slices_insertionSortCmpFunc_impl_Mail.l0, List.range_succ, bs_get, setAt, hr, h2, e5]
end Mx

namespace Mx
open Go
variable {M : Nat → Option Body}
def mRow (l : List Mail) (Z : List (List T)) : Nat × Ob := (0, ⟨0, 4, true, false, l.map encMail ++ Z⟩)
theorem sortTo_all (k : Mail → Int) (l : List Mail) : sortTo k l l.length = sortBy k l := by simp [sortTo]
theorem sortTo_one (k : Mail → Int) (l : List Mail) : sortTo k l 1 = l := by
  cases l with
  | nil => rfl
  | cons x l => simp [sortTo, sortBy, insBy]
def itE (f : Nat) (Z : List (List T)) (k : Mail → Int) (l : List Mail) (s : ItS) : St := { t := [(0, .c (.row 0 0 0 l.length)), (1, .c (I 0)), (2, .c (I l.length)), (3, .c (.fn f [])), (8, .c (I s.i)), (14, .c (.bool false))], o := [(0, ⟨0, 4, true, false, (sortTo k l s.i).map encMail ++ Z⟩)], n := s.n }
theorem it_end {f : Nat} {k : Mail → Int} (m : Nat) (Z : List (List T)) (l : List Mail) (i n : Nat) (h : l.length ≤ i) : ∃ n', exC (run M) m slices_insertionSortCmpFunc_impl_Mail.l0 (itS f Z k l ⟨i, n⟩) = some (.exit 0, itE f Z k l ⟨i, n'⟩) := by
  have h2 : ¬ i < l.length := by omega
  simp only [itS, itE]
  generalize (sortTo k l i).map encMail ++ Z = r0 at *
  simp (maxSteps := 1000000) [slices_insertionSortCmpFunc_impl_Mail.l0, List.range_succ, bs_get, setAt, h2]
theorem slices_insertionSortCmpFunc_impl_Mail.says (h : slices_insertionSortCmpFunc_impl_Mail.k M) {f : Nat} {k : Mail → Int} (hf : ∀ x y : Mail, run M f [.a (encMail x), .a (encMail y)] [] = some (.c (I (cmpI (k x) (k y))), []))
    (l : List Mail) (Z : List (List T)) (hN : l.length ≤ 1048576) : run M 486 [.c (.row 0 0 0 l.length), .c (I 0), .c (I l.length), .c (.fn f [])] [mRow l Z] = some (.tup [], [mRow (sortBy k l) Z]) := by
  refine run_code (b := slices_insertionSortCmpFunc_impl_Mail.m) h ⟨l.length + 1, ?_⟩
  obtain ⟨r, hr, ⟨⟨i, n'⟩, rfl, hi⟩⟩ := loop_ex (f := exC (run M) (l.length + 1) slices_insertionSortCmpFunc_impl_Mail.l0) (itS f Z k l) (fun s => 1 ≤ s.i ∧ (s.i ≤ l.length ∨ s.i = 1)) (fun s => l.length - s.i)
    (fun r => ∃ s', r = (.exit 0, itE f Z k l s') ∧ (s'.i = l.length ∨ l.length = 0 ∧ s'.i = 1))
    (fun s hs => by
      obtain ⟨i, n⟩ := s
      by_cases c : i < l.length
      · left
        obtain ⟨n', hh⟩ := it_turn hf (l.length + 1) Z l hN (by omega) ⟨i, n⟩ ⟨hs.1, c⟩
        exact ⟨_, hh, ⟨by simp only; omega, by simp only; omega⟩, by simp only; omega⟩
      · right
        obtain ⟨n', hh⟩ := it_end (M := M) (f := f) (k := k) (l.length + 1) Z l i n (by omega)
        simp only at hs
        exact ⟨_, hh, by simp, _, rfl, by simp only; omega⟩) (l.length + 1) ⟨1, 2000048⟩ ⟨by simp, by simp⟩ (by simp only; omega)
  have e1 : sortTo k l i = sortBy k l := by
    rcases hi with hi | ⟨h0, hi⟩
    · simp only at hi; rw [hi, sortTo_all]
    · have : l = [] := List.eq_nil_of_length_eq_zero h0
      subst this; simp [sortTo, sortBy]
  simp only [itS, itE, e1, sortTo_one] at hr
  have e2 : IntKind.i64.wrap 1 = 1 := by decide
  have e3 : ((1 : Nat) : Int) = 1 := rfl
  rw [e3] at hr
  simp only [mRow]
  generalize l.map encMail ++ Z = r0 at *
  generalize (sortBy k l).map encMail ++ Z = r1 at *
  simp (maxSteps := 1000000) [exB, slices_insertionSortCmpFunc_impl_Mail.m, slices_insertionSortCmpFunc_impl_Mail.b, List.range_succ, bs_get, setAt, hr, e2]
/-- from the end on there is nothing to be done -/
theorem slices_insertionSortCmpFunc_impl_Mail.rest (h : slices_insertionSortCmpFunc_impl_Mail.k M) {f : Nat} (l : List Mail) (Z : List (List T)) (hN : l.length ≤ 1048576) :
    run M 486 [.c (.row 0 0 0 l.length), .c (I l.length), .c (I l.length), .c (.fn f [])] [mRow l Z] = some (.tup [], [mRow l Z]) := by
  refine run_code (b := slices_insertionSortCmpFunc_impl_Mail.m) h ⟨1, ?_⟩
  have e2 : IntKind.i64.wrap ((l.length : Int) + 1) = (l.length : Int) + 1 := wrap_i64 (by omega) (by omega)
  have e3 : ¬ (l.length : Int) + 1 < l.length := by omega
  simp only [mRow]
  have e4 : l.length ≤ (l.map encMail ++ Z).length := by simp
  generalize l.map encMail ++ Z = r0 at *
  simp (maxSteps := 1000000) [exB, slices_insertionSortCmpFunc_impl_Mail.m, slices_insertionSortCmpFunc_impl_Mail.b, List.range_succ, bs_get, setAt, loopN, slices_insertionSortCmpFunc_impl_Mail.l0, e2, e3]
theorem slices_stableCmpFunc_impl_Mail.says (h : slices_stableCmpFunc_impl_Mail.k M) {f : Nat} {k : Mail → Int} (hf : ∀ x y : Mail, run M f [.a (encMail x), .a (encMail y)] [] = some (.c (I (cmpI (k x) (k y))), []))
    (l : List Mail) (Z : List (List T)) (hN : l.length ≤ 20) : run M 471 [.c (.row 0 0 0 l.length), .c (I l.length), .c (.fn f [])] [mRow l Z] = some (.tup [], [mRow (sortBy k l) Z]) := by
  obtain ⟨h0, k1⟩ := h
  have h1 := slices_insertionSortCmpFunc_impl_Mail.says k1 hf l Z (by omega)
  have h2 := slices_insertionSortCmpFunc_impl_Mail.rest k1 (f := f) (sortBy k l) Z (by rw [sortBy_len]; omega)
  rw [sortBy_len] at h2
  refine run_code (b := slices_stableCmpFunc_impl_Mail.m) h0 ⟨2, ?_⟩
  have e1 : l.length ≤ (l.map encMail ++ Z).length := by simp
  have e2 : l.length ≤ ((sortBy k l).map encMail ++ Z).length := by simp [sortBy_len]
  simp only [mRow] at h1 h2 ⊢
  generalize l.map encMail ++ Z = r0 at *
  generalize (sortBy k l).map encMail ++ Z = r1 at *
  by_cases c : l.length = 20
  · generalize l.length = N at *
    subst c
    simp only [Int.cast_ofNat_Int] at h1 h2
    have w1 : IntKind.i64.wrap 40 = 40 := by decide
    simp (maxSteps := 1000000) [exB, slices_stableCmpFunc_impl_Mail.m, slices_stableCmpFunc_impl_Mail.b, List.range_succ, bs_get, setAt, h1, h2, w1, loopN, slices_stableCmpFunc_impl_Mail.l0, slices_stableCmpFunc_impl_Mail.l1, e1, e2]
  · have c1 : ¬ (20 : Int) ≤ l.length := by omega
    have c2 : ¬ (20 : Int) < l.length := by omega
    have c3 : ¬ 20 ≤ l.length := by omega
    have c4 : ¬ 20 < l.length := by omega
    simp (maxSteps := 1000000) [exB, slices_stableCmpFunc_impl_Mail.m, slices_stableCmpFunc_impl_Mail.b, List.range_succ, bs_get, setAt, h1, h2, c1, c2, c3, c4, loopN, slices_stableCmpFunc_impl_Mail.l0, slices_stableCmpFunc_impl_Mail.l1, e1, e2]
theorem slices_SortStableFunc_impl_Mail_impl_Mail.says (h : slices_SortStableFunc_impl_Mail_impl_Mail.k M) {f : Nat} {k : Mail → Int} (hf : ∀ x y : Mail, run M f [.a (encMail x), .a (encMail y)] [] = some (.c (I (cmpI (k x) (k y))), []))
    (l : List Mail) (Z : List (List T)) (hN : l.length ≤ 20) : run M 455 [.c (.row 0 0 0 l.length), .c (.fn f [])] [mRow l Z] = some (.tup [], [mRow (sortBy k l) Z]) := by
  have h1 := slices_stableCmpFunc_impl_Mail.says h.2 hf l Z hN
  refine run_code (b := slices_SortStableFunc_impl_Mail_impl_Mail.m) h.1 ⟨0, ?_⟩
  have e1 : l.length ≤ (l.map encMail ++ Z).length := by simp
  simp only [mRow] at h1 ⊢
  generalize l.map encMail ++ Z = r0 at *
  generalize (sortBy k l).map encMail ++ Z = r1 at *
  simp (maxSteps := 1000000) [exB, slices_SortStableFunc_impl_Mail_impl_Mail.m, slices_SortStableFunc_impl_Mail_impl_Mail.b, List.range_succ, bs_get, setAt, h1, e1]
end Mx

namespace Mx
open Go
variable {M : Nat → Option Body}
def pAt {α : Type} (p : α → Bool) (l : List α) (i : Nat) : Bool := match l[i]? with | some m => p m | none => false
theorem pAt_at {α : Type} (p : α → Bool) (l : List α) (i : Nat) (h : i < l.length) : pAt p l i = p l[i] := by simp [pAt, h]
def igS (f : Nat) (cs : List T) (l : List Mail) (i : Nat) (x : Nat) : St := { t := [(0, .c (mails l)), (1, .c (.fn f [.vp cs 0])), (7, .c (I l.length)), (8, .c (I i))], o := [], n := x }
theorem slices_IndexFunc_impl_Mail_impl_Mail.gen (h : slices_IndexFunc_impl_Mail_impl_Mail.k M) {f : Nat} {cs : List T} {p : Mail → Bool} (hf : ∀ m, run M f [.a (encMail m), .c (.vp cs 0)] [] = some (.c (.bool (p m)), [])) (l : List Mail) (hl : l.length ≤ 1048576) :
    run M 161 [.c (mails l), .c (.fn f [.vp cs 0])] [] = some (.c (I (intO (firstN (pAt p l) l.length))), []) := by
  refine run_code (b := slices_IndexFunc_impl_Mail_impl_Mail.m) h ⟨l.length + 1, ?_⟩
  obtain ⟨g', hr⟩ := first_loop (f := exC (run M) (l.length + 1) slices_IndexFunc_impl_Mail_impl_Mail.l0) l.length (pAt p l) (igS f cs l) atFin atFin_ne
    (fun i hi x c => by
      have hm := hf l[i]
      rw [pAt_at p l i hi] at c
      rw [c] at hm
      have e5 : IntKind.i64.wrap ((i : Int) + 1) = (i : Int) + 1 := wrap_i64 (by omega) (by omega)
      simp [igS, slices_IndexFunc_impl_Mail_impl_Mail.l0, hi, hm, encMail, e5])
    (fun i hi x c => by
      have hm := hf l[i]
      rw [pAt_at p l i hi] at c
      rw [c] at hm
      simp [igS, slices_IndexFunc_impl_Mail_impl_Mail.l0, hi, hm, encMail, atFin]
      exact ⟨⟨[], [], _⟩, rfl⟩)
    (fun x => by simp [igS, slices_IndexFunc_impl_Mail_impl_Mail.l0, atFin])
  cases hm : firstN (pAt p l) l.length with
  | none =>
    simp [igS, hm, atFin] at hr
    simp [exB, slices_IndexFunc_impl_Mail_impl_Mail.m, slices_IndexFunc_impl_Mail_impl_Mail.b, List.range_succ, hr, intO]
  | some k =>
    simp [igS, hm, atFin] at hr
    simp [exB, slices_IndexFunc_impl_Mail_impl_Mail.m, slices_IndexFunc_impl_Mail_impl_Mail.b, List.range_succ, hr, intO]
theorem dl_keep {f : Nat} {cs : List T} {g u : Int} {fl : List (List T)} {tx : List UInt8} (hf : run M f [.a [I g, I u, .sl false 3 fl, S tx], .c (.vp cs 0)] [] = some (.c (.bool false), [])) (m N i j : Nat) (hN : N ≤ 1048576) (rr : List (List T)) (hj : j < N) (hi : i < N) (e2 : rr.length = N)
    (a1 : ∀ hh, rr[j]'hh = [I g, I u, .sl false 3 fl, S tx]) (n : Nat) (ri : List T) (a2 : rr[i]? = some ri) (a3 : ri.length = 4) :
    ∃ n', exC (run M) m slices_DeleteFunc_impl_Mail_impl_Mail.l0 { t := [(0, .c (.row 0 0 0 N)), (1, .c (.fn f [.vp cs 0])), (5, .c (I i)), (6, .c (I j))], o := [(0, ⟨0, 4, true, false, rr⟩)], n := n } =
      some (.normal, { t := [(0, .c (.row 0 0 0 N)), (1, .c (.fn f [.vp cs 0])), (5, .c (I (i + 1 : Nat))), (6, .c (I (j + 1 : Nat)))], o := [(0, ⟨0, 4, true, false, rr.set i [I g, I u, .sl false 3 fl, S tx]⟩)], n := n' }) := by
  have e5 : IntKind.i64.wrap ((i : Int) + 1) = (i : Int) + 1 := wrap_i64 (by omega) (by omega)
  have e6 : IntKind.i64.wrap ((j : Int) + 1) = (j : Int) + 1 := wrap_i64 (by omega) (by omega)
  match ri, a3 with
  | [r0, r1, r2, r3], _ =>
    have a4 : ∀ hh, rr[i]'hh = [r0, r1, r2, r3] := by
      intro hh; rw [List.getElem?_eq_getElem hh] at a2; exact Option.some.inj a2
    clear a2
    simp (maxSteps := 1000000) [slices_DeleteFunc_impl_Mail_impl_Mail.l0, List.range_succ, bs_get, setAt, hf, hj, hi, e2, a1, a4, e5, e6]
theorem dl_drop {f : Nat} {cs : List T} {g u : Int} {fl : List (List T)} {tx : List UInt8} (hf : run M f [.a [I g, I u, .sl false 3 fl, S tx], .c (.vp cs 0)] [] = some (.c (.bool true), [])) (m N i j : Nat) (hN : N ≤ 1048576) (rr : List (List T)) (hj : j < N) (e2 : rr.length = N)
    (a1 : ∀ hh, rr[j]'hh = [I g, I u, .sl false 3 fl, S tx]) (n : Nat) :
    ∃ n', exC (run M) m slices_DeleteFunc_impl_Mail_impl_Mail.l0 { t := [(0, .c (.row 0 0 0 N)), (1, .c (.fn f [.vp cs 0])), (5, .c (I i)), (6, .c (I j))], o := [(0, ⟨0, 4, true, false, rr⟩)], n := n } =
      some (.normal, { t := [(0, .c (.row 0 0 0 N)), (1, .c (.fn f [.vp cs 0])), (5, .c (I i)), (6, .c (I (j + 1 : Nat)))], o := [(0, ⟨0, 4, true, false, rr⟩)], n := n' }) := by
  have e6 : IntKind.i64.wrap ((j : Int) + 1) = (j : Int) + 1 := wrap_i64 (by omega) (by omega)
  simp (maxSteps := 1000000) [slices_DeleteFunc_impl_Mail_impl_Mail.l0, List.range_succ, bs_get, setAt, hf, hj, e2, a1, e6]
theorem dl_end {f : Nat} {cs : List T} (m N i j : Nat) (rr : List (List T)) (hj : ¬ j < N) (n : Nat) :
    ∃ n', exC (run M) m slices_DeleteFunc_impl_Mail_impl_Mail.l0 { t := [(0, .c (.row 0 0 0 N)), (1, .c (.fn f [.vp cs 0])), (5, .c (I i)), (6, .c (I j))], o := [(0, ⟨0, 4, true, false, rr⟩)], n := n } =
      some (.exit 0, { t := [(0, .c (.row 0 0 0 N)), (1, .c (.fn f [.vp cs 0])), (5, .c (I i)), (6, .c (I j)), (19, .c (.bool false))], o := [(0, ⟨0, 4, true, false, rr⟩)], n := n' }) := by
  simp (maxSteps := 1000000) [slices_DeleteFunc_impl_Mail_impl_Mail.l0, List.range_succ, bs_get, setAt, hj]
structure DlS where
  j : Nat
  D : List Mail
  n : Nat
def keptN (p : Mail → Bool) (l : List Mail) (j : Nat) : List Mail := (l.take j).filter fun m => !p m
def dlS (f : Nat) (cs : List T) (p : Mail → Bool) (l : List Mail) (s : DlS) : St := { t := [(0, .c (.row 0 0 0 l.length)), (1, .c (.fn f [.vp cs 0])), (5, .c (I (keptN p l s.j).length)), (6, .c (I s.j))], o := [(0, ⟨0, 4, true, false, s.D.map encMail⟩)], n := s.n }
def dlE (f : Nat) (cs : List T) (p : Mail → Bool) (l : List Mail) (s : DlS) : St := { t := [(0, .c (.row 0 0 0 l.length)), (1, .c (.fn f [.vp cs 0])), (5, .c (I (keptN p l s.j).length)), (6, .c (I s.j)), (19, .c (.bool false))], o := [(0, ⟨0, 4, true, false, s.D.map encMail⟩)], n := s.n }
structure DlI (p : Mail → Bool) (l : List Mail) (s : DlS) : Prop where
  j : s.j ≤ l.length
  len : s.D.length = l.length
  tk : s.D.take (keptN p l s.j).length = keptN p l s.j
  dr : s.D.drop s.j = l.drop s.j
  lt : (keptN p l s.j).length < s.j
theorem dl_turn {f : Nat} {cs : List T} {p : Mail → Bool} (hf : ∀ m, run M f [.a (encMail m), .c (.vp cs 0)] [] = some (.c (.bool (p m)), [])) (k : Nat) (l : List Mail) (hN : l.length ≤ 1048576) (s : DlS) (hs : DlI p l s) :
    (∃ s', exC (run M) k slices_DeleteFunc_impl_Mail_impl_Mail.l0 (dlS f cs p l s) = some (.normal, dlS f cs p l s') ∧ DlI p l s' ∧ l.length - s'.j < l.length - s.j) ∨
      (∃ r, exC (run M) k slices_DeleteFunc_impl_Mail_impl_Mail.l0 (dlS f cs p l s) = some r ∧ r.1 ≠ .normal ∧ ∃ s', r = (.exit 0, dlE f cs p l s') ∧ s'.j = l.length ∧ DlI p l s') := by
  obtain ⟨j, D, n⟩ := s
  obtain ⟨h1, h2, h3, h4, h5⟩ := hs
  simp only at h1 h2 h3 h4 h5
  by_cases c : j < l.length
  · left
    have hD : D[j]'(by omega) = l[j] := by
      have q1 := List.drop_eq_getElem_cons (l := D) (i := j) (by omega)
      have q2 := List.drop_eq_getElem_cons (l := l) (i := j) c
      rw [h4, q2] at q1
      exact (List.cons.inj q1).1.symm
    have hdr : D.drop (j + 1) = l.drop (j + 1) := by
      have q1 := List.drop_eq_getElem_cons (l := D) (i := j) (by omega)
      have q2 := List.drop_eq_getElem_cons (l := l) (i := j) c
      rw [h4, q2] at q1
      exact (List.cons.inj q1).2.symm
    have a1 : ∀ hh, (D.map encMail)[j]'hh = encMail l[j] := by intro hh; simp [hD]
    have e2 : (D.map encMail).length = l.length := by simpa using h2
    have hm := hf l[j]
    have ek : keptN p l (j + 1) = keptN p l j ++ if p l[j] = true then [] else [l[j]] := by
      simp only [keptN, take_snoc l j c, List.filter_append]
      cases q : p l[j] <;> simp [q]
    cases q : p l[j] with
    | true =>
      rw [q] at hm
      obtain ⟨n', hh⟩ := dl_drop hm k l.length (keptN p l j).length j hN (D.map encMail) c e2 a1 n
      rw [q] at ek
      simp only [if_true, List.append_nil] at ek
      refine ⟨⟨j + 1, D, n'⟩, ?_, ⟨by simp only; omega, h2, by simp only [ek]; exact h3, hdr, by simp only [ek]; omega⟩, by simp only; omega⟩
      simp only [dlS, ek]
      exact hh
    | false =>
      rw [q] at hm
      have hi : (keptN p l j).length < l.length := by omega
      obtain ⟨n', hh⟩ := dl_keep hm k l.length (keptN p l j).length j hN (D.map encMail) c hi e2 a1 n (encMail (D[(keptN p l j).length]'(by omega))) (by rw [List.getElem?_map, List.getElem?_eq_getElem (by omega)]; rfl) rfl
      rw [q] at ek
      simp only [Bool.false_eq_true, if_false] at ek
      have el : (keptN p l (j + 1)).length = (keptN p l j).length + 1 := by rw [ek]; simp
      refine ⟨⟨j + 1, D.set (keptN p l j).length l[j], n'⟩, ?_, ⟨by simp only; omega, by simpa using h2, ?_, ?_, by simp only [el]; omega⟩, by simp only; omega⟩
      · simp only [dlS, el, List.map_set]
        exact hh
      · show (D.set (keptN p l j).length l[j]).take (keptN p l (j + 1)).length = keptN p l (j + 1)
        rw [el, ek, take_snoc _ _ (by simp; omega), List.take_set_of_le (Nat.le_refl _), h3]
        simp
      · simp only
        rw [List.drop_set_of_lt (by omega)]
        exact hdr
  · right
    have hj : j = l.length := by omega
    obtain ⟨n', hh⟩ := dl_end (M := M) (f := f) (cs := cs) k l.length (keptN p l j).length j (D.map encMail) c n
    exact ⟨_, hh, by simp, ⟨j, D, n'⟩, rfl, hj, ⟨h1, h2, h3, h4, h5⟩⟩
theorem slices_DeleteFunc_impl_Mail_impl_Mail.says (h : slices_DeleteFunc_impl_Mail_impl_Mail.k M) {f : Nat} {cs : List T} {p : Mail → Bool} (hf : ∀ m, run M f [.a (encMail m), .c (.vp cs 0)] [] = some (.c (.bool (p m)), [])) (l : List Mail) (hl : l.length ≤ 1048576) :
    run M 453 [.c (.row 0 0 0 l.length), .c (.fn f [.vp cs 0])] [mRow l []] =
      some (.c (.row 0 0 0 (l.filter fun m => !p m).length), [(0, ⟨0, 4, true, false, (l.filter fun m => !p m).map encMail ++ List.replicate (l.length - (l.filter fun m => !p m).length) mzero⟩)]) := by
  obtain ⟨h0, k1⟩ := h
  have h1 := slices_IndexFunc_impl_Mail_impl_Mail.gen k1 hf l hl
  refine run_code (b := slices_DeleteFunc_impl_Mail_impl_Mail.m) h0 ⟨l.length + 1, ?_⟩
  have e0 : (l.map encMail).length = l.length := by simp
  cases hq : firstN (pAt p l) l.length with
  | none =>
    have hall : (l.filter fun m => !p m) = l := List.filter_eq_self.2 fun m hm => by
      obtain ⟨j, hj, rfl⟩ := List.getElem_of_mem hm
      have := firstN_none hq j hj
      rw [pAt_at p l j hj] at this
      simp [this]
    rw [hall, Nat.sub_self, List.replicate_zero, List.append_nil]
    rw [hq] at h1
    simp only [mRow, mails, intO, List.append_nil] at h1 ⊢
    generalize l.map encMail = r0 at *
    simp (maxSteps := 1000000) [exB, slices_DeleteFunc_impl_Mail_impl_Mail.m, slices_DeleteFunc_impl_Mail_impl_Mail.b, List.range_succ, bs_get, setAt, h1, e0, List.take_of_length_le]
  | some k =>
    rw [hq] at h1
    obtain ⟨hk1, hk2, hk3⟩ := firstN_some hq
    rw [pAt_at p l k hk1] at hk2
    have ek : keptN p l k = l.take k := by
      refine List.filter_eq_self.2 fun m hm => ?_
      obtain ⟨j, hj, rfl⟩ := List.getElem_of_mem hm
      have hj' : j < k := by simp at hj; omega
      have := hk3 j hj'
      rw [pAt_at p l j (by omega)] at this
      simp [this]
    have ek1 : keptN p l (k + 1) = l.take k := by
      simp only [keptN, take_snoc l k hk1, List.filter_append] at ek ⊢
      rw [ek]; simp [hk2]
    have el : (keptN p l (k + 1)).length = k := by rw [ek1]; simp; omega
    obtain ⟨r, hr, ⟨⟨j, D, n'⟩, rfl, hj, hI⟩⟩ := loop_ex (f := exC (run M) (l.length + 1) slices_DeleteFunc_impl_Mail_impl_Mail.l0) (dlS f cs p l) (DlI p l) (fun s => l.length - s.j)
      (fun r => ∃ s', r = (.exit 0, dlE f cs p l s') ∧ s'.j = l.length ∧ DlI p l s') (fun s hs => dl_turn hf (l.length + 1) l hl s hs) (l.length + 1) ⟨k + 1, l, 2000160⟩
      ⟨by simp only; omega, rfl, by show l.take (keptN p l (k + 1)).length = keptN p l (k + 1); rw [el, ek1], rfl, by simp only [el]; omega⟩ (by simp only; omega)
    obtain ⟨_, hlen, htk, _, hlt⟩ := hI
    simp only at hj hlen htk hlt
    subst hj
    have ef : keptN p l l.length = l.filter fun m => !p m := by simp [keptN]
    rw [ef] at htk hlt
    simp only [dlS, dlE, el, ef] at hr
    have e1 : (D.map encMail).length = l.length := by simpa using hlen
    have e2 : (D.map encMail).take (l.filter fun m => !p m).length = (l.filter fun m => !p m).map encMail := by rw [← List.map_take, htk]
    have e3 : ((l.filter fun m => !p m).map encMail).length = (l.filter fun m => !p m).length := by simp
    have e5 : IntKind.i64.wrap ((k : Int) + 1) = (k : Int) + 1 := wrap_i64 (by omega) (by omega)
    have e6 : ((k + 1 : Nat) : Int) = (k : Int) + 1 := by omega
    have e7 : ¬ (k : Int) = -1 := by omega
    rw [e6] at hr
    simp only [mRow, mails, intO, List.append_nil] at h1 ⊢
    generalize (l.filter fun m => !p m).map encMail = rf at *
    generalize (l.filter fun m => !p m).length = nf at *
    generalize D.map encMail = rd at *
    generalize l.map encMail = r0 at *
    clear hk2 hk3 ek ek1 el hq ef
    generalize l.length = N at *
    have e8 : nf ≤ N := by omega
    have e9 : ¬ N = nf := by omega
    have e10 : ¬ nf = N := by omega
    have e11 : nf + (N - nf) = N := by omega
    have e12 : ¬ N - nf = 0 := by omega
    have e13 : List.drop N rd = [] := List.drop_eq_nil_of_le (by omega)
    simp (maxSteps := 1000000) [exB, slices_DeleteFunc_impl_Mail_impl_Mail.m, slices_DeleteFunc_impl_Mail_impl_Mail.b, List.range_succ, bs_get, setAt, h1, hr, e0, e1, e2, e3, e5, e7, e8, e9, e10, e11, e12, e13, List.take_of_length_le]
end Mx

namespace Mx
open Go
theorem assignU_gids (need : Int → Bool) : ∀ (l : List Mail) (n : Int), (assignU need n l).1.map (·.gid) = l.map (·.gid)
  | [], n => rfl
  | m :: l, n => by
    simp only [assignU]
    split
    · simp [assignU_gids need l (n + 1)]
    · simp [assignU_gids need l n]
theorem assignU_next (need : Int → Bool) : ∀ (l : List Mail) (n : Int), n ≤ (assignU need n l).2 ∧ (assignU need n l).2 ≤ n + l.length
  | [], n => by simp [assignU]
  | m :: l, n => by
    simp only [assignU, List.length_cons]
    split
    · have := assignU_next need l (n + 1); simp only; omega
    · have := assignU_next need l n; simp only; omega
theorem assignU_mem (need : Int → Bool) : ∀ (l : List Mail) (n : Int) (m : Mail), m ∈ (assignU need n l).1 →
    ∃ m0 ∈ l, m0.gid = m.gid ∧ m.flags = m0.flags ∧ m.text = m0.text ∧ ((need m.gid = true ∧ n ≤ m.uid ∧ m.uid < (assignU need n l).2) ∨ (need m.gid = false ∧ m.uid = m0.uid))
  | [], n, m, h => by simp [assignU] at h
  | a :: l, n, m, h => by
    simp only [assignU] at h ⊢
    split at h
    · rename_i c
      rw [if_pos c]
      rcases List.mem_cons.1 h with rfl | h
      · exact ⟨a, List.mem_cons_self .., rfl, rfl, rfl, .inl ⟨c, by simp only; omega, by have := (assignU_next need l (n + 1)).1; simp only; omega⟩⟩
      · obtain ⟨m0, h1, h2, h3, h4, h5⟩ := assignU_mem need l (n + 1) m h
        exact ⟨m0, List.mem_cons_of_mem _ h1, h2, h3, h4, h5.imp (fun q => ⟨q.1, by omega, q.2.2⟩) id⟩
    · rename_i c
      rw [if_neg c]
      rcases List.mem_cons.1 h with rfl | h
      · exact ⟨m, List.mem_cons_self .., rfl, rfl, rfl, .inr ⟨by simpa using c, rfl⟩⟩
      · obtain ⟨m0, h1, h2, h3, h4, h5⟩ := assignU_mem need l n m h
        exact ⟨m0, List.mem_cons_of_mem _ h1, h2, h3, h4, h5⟩
/-- the Gids that both come to, ascending -/
def stay (a b : Box) : List Int := (joinGone (gids a.mails) (gids b.mails)).filter fun g => !decide (g ∈ joinGone a.gone b.gone)
theorem stay_mem {a b : Box} {g : Int} : g ∈ stay a b ↔ (g ∈ gids a.mails ∨ g ∈ gids b.mails) ∧ ¬ (g ∈ a.gone ∨ g ∈ b.gone) := by
  simp [stay, List.mem_filter, joinGone_mem]
theorem joinedS_perm {a b : Box} (ha : (gids a.mails).Nodup) (hb : (gids b.mails).Nodup) :
    (joinedS a b).1.Perm (assignU (needs a b) (Max.max a.next b.next) ((stay a b).map (joinM a.mails b.mails))).1 := by
  rw [← joined_eq ha hb]
  simp only [joinedI]
  rw [srt_eq ha hb]
  exact sortBy_perm _
theorem joinedS_gids {a b : Box} (ha : (gids a.mails).Nodup) (hb : (gids b.mails).Nodup) : (gids (joinedS a b).1).Perm (stay a b) := by
  have h := (joinedS_perm ha hb).map (fun m : Mail => m.gid)
  rw [assignU_gids] at h
  refine h.trans (List.Perm.of_eq ?_)
  rw [List.map_map]
  have : ∀ l : List Int, (∀ g ∈ l, g ∈ gids a.mails ∨ g ∈ gids b.mails) → l.map ((fun m : Mail => m.gid) ∘ joinM a.mails b.mails) = l := by
    intro l hl
    induction l with
    | nil => rfl
    | cons g l ih =>
      rw [List.map_cons, ih fun g hg => hl g (List.mem_cons_of_mem _ hg)]
      simp only [Function.comp]
      rw [joinM_gid (hl g (List.mem_cons_self ..))]
  exact this _ fun g hg => (stay_mem.1 hg).1
/-- a mail is there: it was on a side, and on no side it is gone -/
theorem joined_holds {a b : Box} (ha : (gids a.mails).Nodup) (hb : (gids b.mails).Nodup) {g : Int} : g ∈ gids (joinedS a b).1 ↔ (g ∈ gids a.mails ∨ g ∈ gids b.mails) ∧ ¬ (g ∈ a.gone ∨ g ∈ b.gone) := by
  rw [(joinedS_gids ha hb).mem_iff, stay_mem]
end Mx

namespace Mx
open Go
theorem Good.nd {b : Box} (h : Good b) : (Mx.gids b.mails).Nodup := List.pairwise_map.2 h.gids
theorem mailO_in {b : Box} (h : Good b) {m : Mail} (hm : m ∈ b.mails) : ∃ k, mailO b.mails m.gid = some k ∧ b.mails[k]? = some m := by
  obtain ⟨j, hj, rfl⟩ := List.getElem_of_mem hm
  exact ⟨j, mailO_at hj fun i hi => List.pairwise_iff_getElem.1 h.gids i j (by omega) hj hi, List.getElem?_eq_getElem hj⟩
theorem mailIn_of {b : Box} (h : Good b) {m : Mail} (hm : m ∈ b.mails) : mailIn b.mails m.gid = some m := mailIn_mem h.nd hm
theorem holds_iff {b : Box} {g : Int} : holds b g = true ↔ g ∈ gids b.mails := by
  unfold holds
  cases q : mailO b.mails g with
  | none =>
    have := mailO_none.1 q
    have e : decide (0 ≤ intO none) = false := by decide
    rw [e]
    constructor
    · intro h; cases h
    · intro h
      obtain ⟨m, hm, e⟩ := List.mem_map.1 h
      exact (this m hm e).elim
  | some k =>
    obtain ⟨h1, h2, _⟩ := mailO_some q
    have e : decide (0 ≤ intO (some k)) = true := decide_eq_true (Int.natCast_nonneg k)
    rw [e]
    exact ⟨fun _ => List.mem_map.2 ⟨_, List.getElem_mem h1, h2⟩, fun _ => rfl⟩
/-- a number that both sides keep -/
theorem keeps_both {a b : Box} (hb : Good b) {x y : Mail} (ha : Good a) (hx : x ∈ a.mails) (hy : y ∈ b.mails) (e : x.gid = y.gid) (h : keepsUid a b x.gid = true) : x.uid = y.uid := by
  obtain ⟨i, h1, h2⟩ := mailO_in ha hx
  obtain ⟨k, h3, h4⟩ := mailO_in hb hy
  rw [← e] at h3
  simpa [keepsUid, h1, h3, uidAt, h2, h4] using h
/-- a number of one side alone, that it keeps, is above all that the other gave -/
theorem keeps_one {a b : Box} {x : Mail} (ha : Good a) (hx : x ∈ a.mails) (hn : ∀ y ∈ b.mails, y.gid ≠ x.gid) (h : keepsUid a b x.gid = true) : b.next ≤ x.uid := by
  obtain ⟨i, h1, h2⟩ := mailO_in ha hx
  simpa [keepsUid, h1, mailO_none.2 hn, uidAt, h2] using h
/-- FnUidsKept's heart: a mail of what two boxes come to whose number is not new kept it from each side that has it -/
theorem uid_kept {a b : Box} (ha : Good a) (hb : Good b) {m : Mail} (hm : m ∈ (joinedS a b).1) (hold : ¬ (a.next ≤ m.uid ∧ b.next ≤ m.uid)) :
    (∀ x ∈ a.mails, x.gid = m.gid → x.uid = m.uid) ∧ (∀ y ∈ b.mails, y.gid = m.gid → y.uid = m.uid) ∧
      ((∀ x ∈ a.mails, x.gid ≠ m.gid) → a.next ≤ m.uid) ∧ ((∀ y ∈ b.mails, y.gid ≠ m.gid) → b.next ≤ m.uid) := by
  obtain ⟨m0, h1, h2, _, _, h5⟩ := assignU_mem _ _ _ m ((joinedS_perm ha.nd hb.nd).mem_iff.1 hm)
  obtain ⟨g, hg, rfl⟩ := List.mem_map.1 h1
  have hgm := stay_mem.1 hg
  rw [joinM_gid hgm.1] at h2
  subst h2
  rcases h5 with ⟨_, h6, _⟩ | ⟨h6, h7⟩
  · exact (hold ⟨by omega, by omega⟩).elim
  simp only [needs, Bool.or_eq_false_iff, Bool.and_eq_false_imp, Bool.not_eq_eq_eq_not, Bool.not_false] at h6
  have ka := fun h => h6.1 (holds_iff.2 h)
  have kb := fun h => h6.2 (holds_iff.2 h)
  cases hx : mailIn a.mails m.gid with
  | none =>
    have na := mailIn_none.1 hx
    cases hy : mailIn b.mails m.gid with
    | none =>
      have nb := mailIn_none.1 hy
      rcases hgm.1 with q | q
      · obtain ⟨z, hz, e⟩ := List.mem_map.1 q; exact (na z hz e).elim
      · obtain ⟨z, hz, e⟩ := List.mem_map.1 q; exact (nb z hz e).elim
    | some y =>
      obtain ⟨hyb, ey⟩ := mailIn_some hy
      have e : m.uid = y.uid := by rw [h7]; simp only [joinM, hx, hy]
      have hk := kb (List.mem_map.2 ⟨y, hyb, ey⟩)
      rw [← ey] at hk
      have := keeps_one hb hyb (fun z hz q => na z hz (by rw [q, ey])) hk
      refine ⟨fun x hxa q => (na x hxa q).elim, fun z hz q => ?_, fun _ => by omega, fun q => (q y hyb ey).elim⟩
      have := mailIn_of hb hz
      rw [q, hy] at this; cases this; exact e.symm
  | some x =>
    obtain ⟨hxa, ex⟩ := mailIn_some hx
    have hk := ka (List.mem_map.2 ⟨x, hxa, ex⟩)
    rw [← ex] at hk
    have ua : ∀ z ∈ a.mails, z.gid = m.gid → z = x := fun z hz q => by
      have := mailIn_of ha hz
      rw [q, hx] at this; cases this; rfl
    cases hy : mailIn b.mails m.gid with
    | none =>
      have nb := mailIn_none.1 hy
      have e : m.uid = x.uid := by rw [h7]; simp only [joinM, hx, hy]
      have := keeps_one ha hxa (fun z hz q => nb z hz (by rw [q, ex])) hk
      exact ⟨fun z hz q => by rw [ua z hz q]; exact e.symm, fun y hyb q => (nb y hyb q).elim, fun q => (q x hxa ex).elim, fun _ => by omega⟩
    | some y =>
      obtain ⟨hyb, ey⟩ := mailIn_some hy
      have exy := keeps_both hb ha hxa hyb (by rw [ex, ey]) hk
      have e : m.uid = x.uid := by
        rw [h7]; simp only [joinM, hx, hy, joinMail]
        rw [if_pos (by rw [ex, ey])]
        simp only; omega
      have ub : ∀ z ∈ b.mails, z.gid = m.gid → z = y := fun z hz q => by
        have := mailIn_of hb hz
        rw [q, hy] at this; cases this; rfl
      exact ⟨fun z hz q => by rw [ua z hz q]; exact e.symm, fun z hz q => by rw [ub z hz q]; omega, fun q => (q x hxa ex).elim, fun q => (q y hyb ey).elim⟩
end Mx

namespace Mx
open Go
theorem mailO_in_none {l : List Mail} {g : Int} : mailO l g = none ↔ mailIn l g = none := by rw [mailO_none, mailIn_none]
theorem mailO_in_some {l : List Mail} {g : Int} {k : Nat} (h : mailO l g = some k) : ∃ hk : k < l.length, mailIn l g = some l[k] := by
  obtain ⟨h1, h2, h3⟩ := mailO_some h
  refine ⟨h1, ?_⟩
  unfold mailIn
  rw [List.find?_eq_some_iff_getElem]
  exact ⟨by simp [h2], k, h1, rfl, fun j hj => by simpa using h3 j hj⟩
theorem kept_count {a b : Box} (ha : (gids a.mails).Nodup) (hb : (gids b.mails).Nodup) :
    (a.mails.filter fun m => decide (m.gid ∈ gids (joinedS a b).1)).length + (b.mails.filter fun m => decide (m.gid ∈ gids (joinedS a b).1) && !decide (m.gid ∈ gids a.mails)).length = (joinedS a b).1.length := by
  have hn : (gids (joinedS a b).1).Nodup := (joinedS_gids ha hb).nodup_iff.2 (by
    have := (joinGone_asc (gids a.mails) (gids b.mails)).filter (fun g => !decide (g ∈ joinGone a.gone b.gone))
    exact this.imp fun h => by omega)
  have hl : (joinedS a b).1.length = (gids (joinedS a b).1).length := by simp [gids]
  rw [hl]
  have hp : (gids (a.mails.filter fun m => decide (m.gid ∈ gids (joinedS a b).1)) ++ gids (b.mails.filter fun m => decide (m.gid ∈ gids (joinedS a b).1) && !decide (m.gid ∈ gids a.mails))).Perm (gids (joinedS a b).1) := by
    refine (List.perm_ext_iff_of_nodup ?_ hn).2 fun g => ?_
    · rw [List.nodup_append]
      refine ⟨ha.sublist (List.Sublist.map _ List.filter_sublist), hb.sublist (List.Sublist.map _ List.filter_sublist), ?_⟩
      intro x hx y hy e
      subst e
      obtain ⟨m, hm, rfl⟩ := List.mem_map.1 hx
      obtain ⟨m', hm', e⟩ := List.mem_map.1 hy
      rw [List.mem_filter] at hm hm'
      have h1 : m'.gid ∈ gids a.mails := by rw [e]; exact List.mem_map_of_mem hm.1
      simp [h1] at hm'
    · constructor
      · intro h
        rcases List.mem_append.1 h with h | h
        · obtain ⟨m, hm, rfl⟩ := List.mem_map.1 h
          have := (List.mem_filter.1 hm).2
          simpa using this
        · obtain ⟨m, hm, rfl⟩ := List.mem_map.1 h
          have := (List.mem_filter.1 hm).2
          simp only [Bool.and_eq_true, decide_eq_true_eq] at this
          exact this.1
      · intro h
        have hh := ((joined_holds ha hb).1 h).1
        by_cases c : g ∈ gids a.mails
        · obtain ⟨m, hm, rfl⟩ := List.mem_map.1 c
          exact List.mem_append_left _ (List.mem_map.2 ⟨m, List.mem_filter.2 ⟨hm, by simpa using h⟩, rfl⟩)
        · obtain ⟨m, hm, rfl⟩ := List.mem_map.1 (hh.resolve_left c)
          exact List.mem_append_right _ (List.mem_map.2 ⟨m, List.mem_filter.2 ⟨hm, by simp only [Bool.and_eq_true, decide_eq_true_eq]; exact ⟨h, by simpa using c⟩⟩, rfl⟩)
  have := hp.length_eq
  simpa [gids] using this
end Mx

namespace Mx
open Go
variable {M : Nat → Option Body}
theorem impl_joined_1.says (h : impl_joined_1.k M) (m : Mail) (G : List Int) (hG : G.length ≤ 4194304) : run M 454 [.a (encMail m), .c (.vp [ints G] 0)] [] = some (.c (.bool (decide (m.gid ∈ G))), []) := by
  have h1 := slices_Contains_int_int.says h.2 G m.gid (by omega)
  refine run_code (b := impl_joined_1.m) h.1 ⟨0, ?_⟩
  simp only [ints] at h1 ⊢
  generalize irow G = g at *
  simp (maxSteps := 1000000) [exB, impl_joined_1.m, impl_joined_1.b, List.range_succ, bs_get, setAt, h1, encMail]
/-- this side's first list -/
def firstM (a b : List Mail) : List Mail := a.map fun m => match mailIn b m.gid with | some y => joinMail m y | none => m
theorem firstM_len (a b : List Mail) : (firstM a b).length = a.length := by simp [firstM]
def jdO (u2 u3 : Nat) (a b : Box) (v : Nat) (rows : List (List T)) : List (Nat × Ob) := [(2, ⟨u2, 7, true, true, [encBox a]⟩), (3, ⟨u3, 7, true, true, [encBox b]⟩), (16, ⟨v, 4, true, false, rows⟩)]
structure JdS where
  i : Nat
  v : Nat
  n : Nat
def jaS (u2 u3 : Nat) (a b : Box) (s : JdS) : St := { t := [(2, .c (.ptr 2 u2 0 0)), (3, .c (.ptr 3 u3 0 0)), (6, .c (.row 16 s.v 0 s.i)), (18, .c (mails a.mails)), (19, .c (I a.mails.length)), (20, .c (I s.i))], o := jdO u2 u3 a b s.v (((firstM a.mails b.mails).take s.i).map encMail), n := s.n }
def jaE (u2 u3 : Nat) (a b : Box) (s : JdS) : St := { t := [(2, .c (.ptr 2 u2 0 0)), (3, .c (.ptr 3 u3 0 0)), (6, .c (.row 16 s.v 0 s.i)), (18, .c (mails a.mails)), (19, .c (I a.mails.length)), (20, .c (I s.i)), (21, .c (.bool false))], o := jdO u2 u3 a b s.v (((firstM a.mails b.mails).take s.i).map encMail), n := s.n }
structure JdK (M : Nat → Option Body) : Prop where
  holds : impl_Holds.k M
  keeps : impl_KeepsUid.k M
  gone : impl_JoinGone.k M
  at_ : impl_MailAt.k M
  copy : impl_copyMail.k M
  join : impl_JoinMail.k M
  del : slices_DeleteFunc_impl_Mail_impl_Mail.k M
  c1 : impl_joined_1.k M
  sort : slices_SortStableFunc_impl_Mail_impl_Mail.k M
  c2 : impl_joined_2.k M
  c3 : impl_joined_3.k M
set_option maxHeartbeats 1000000 in
theorem ja_turn (K : JdK M) (k u2 u3 : Nat) (a b : Box) (ha : BoxIn a) (hb : BoxIn b) (s : JdS) (hs : s.i < a.mails.length) :
    ∃ v' n', exC (run M) k impl_joined.l0 (jaS u2 u3 a b s) = some (.normal, jaS u2 u3 a b ⟨s.i + 1, v', n'⟩) := by
  obtain ⟨i, v, n⟩ := s
  simp only at hs
  have hm := ha.m
  have h1 := impl_MailAt.says K.at_ b a.mails[i].gid hb.m
  have e5 : IntKind.i64.wrap ((i : Int) + 1) = (i : Int) + 1 := wrap_i64 (by omega) (by omega)
  have e6 : i + 1 ≤ 4294967296 := by omega
  have hl := firstM_len a.mails b.mails
  have e7 : (((firstM a.mails b.mails).take i).map encMail).length = i := by simp [hl]; omega
  have e9 : (a.mails.map encMail).length = a.mails.length := by simp
  have e8 : ((firstM a.mails b.mails).take (i + 1)).map encMail = ((firstM a.mails b.mails).take i).map encMail ++ [encMail (firstM a.mails b.mails)[i]] := by
    rw [take_snoc _ _ (by rw [hl]; exact hs), List.map_append]; rfl
  have a1 : ∀ hh, (a.mails.map encMail)[i]'hh = encMail a.mails[i] := by intro hh; simp
  cases hq : mailO b.mails a.mails[i].gid with
  | none =>
    rw [hq] at h1
    have h2 := impl_copyMail.says K.copy a.mails[i] (ha.f _ (List.getElem_mem hs))
    have ef : (firstM a.mails b.mails)[i]'(by rw [hl]; exact hs) = a.mails[i] := by
      simp only [firstM, List.getElem_map, mailO_in_none.1 hq]
    rw [ef] at e8
    simp only [jaS, jdO, e8]
    simp only [encBox, mails, ints, intO, encMail, encMailO, regs] at h1 h2 a1 ⊢
    generalize List.map encMail ((firstM a.mails b.mails).take i) = rr at *
    generalize a.mails.map encMail = ra at *
    generalize b.mails.map encMail = rb at *
    generalize irow a.gone = ga at *
    generalize irow b.gone = gb at *
    generalize a.mails[i].flags.map encReg = rf at *
    simp (maxSteps := 1000000) [impl_joined.l0, List.range_succ, bs_get, setAt, h1, h2, hs, e5, e6, e7, e9, a1, List.take_of_length_le]
  | some q =>
    rw [hq] at h1
    obtain ⟨hq1, hq2⟩ := mailO_in_some hq
    have hf1 := ha.f _ (List.getElem_mem hs)
    have h3 := impl_JoinMail.says K.join a.mails[i] b.mails[q] hf1 (hb.f _ (List.getElem_mem hq1))
    have h2 := impl_copyMail.says K.copy (joinMail a.mails[i] b.mails[q]) (Nat.le_trans (joinMail_flags _ _) hf1)
    have ef : (firstM a.mails b.mails)[i]'(by rw [hl]; exact hs) = joinMail a.mails[i] b.mails[q] := by
      simp only [firstM, List.getElem_map, hq2]
    rw [ef] at e8
    have e10 : (b.mails.map encMail).length = b.mails.length := by simp
    have a2 : ∀ hh, (b.mails.map encMail)[q]'hh = encMail b.mails[q] := by intro hh; simp
    simp only [jaS, jdO, e8]
    simp only [encBox, mails, ints, intO, encMail, encMailO, regs] at h1 h2 h3 a1 a2 ⊢
    generalize List.map encMail ((firstM a.mails b.mails).take i) = rr at *
    generalize a.mails.map encMail = ra at *
    generalize b.mails.map encMail = rb at *
    generalize irow a.gone = ga at *
    generalize irow b.gone = gb at *
    generalize a.mails[i].flags.map encReg = rf at *
    generalize b.mails[q].flags.map encReg = rg at *
    generalize (joinMail a.mails[i] b.mails[q]).flags.map encReg = rj at *
    simp (maxSteps := 1000000) [impl_joined.l0, List.range_succ, bs_get, setAt, h1, h2, h3, hs, hq1, e5, e6, e7, e9, e10, a1, a2, List.take_of_length_le]
theorem ja_end (k u2 u3 : Nat) (a b : Box) (s : JdS) (hs : ¬ s.i < a.mails.length) :
    ∃ n', exC (run M) k impl_joined.l0 (jaS u2 u3 a b s) = some (.exit 0, jaE u2 u3 a b ⟨s.i, s.v, n'⟩) := by
  obtain ⟨i, v, n⟩ := s
  simp only at hs
  simp only [jaS, jaE, jdO]
  generalize List.map encMail ((firstM a.mails b.mails).take i) = rr at *
  simp only [encBox, mails, ints]
  generalize a.mails.map encMail = ra at *
  generalize b.mails.map encMail = rb at *
  simp (maxSteps := 1000000) [impl_joined.l0, List.range_succ, bs_get, setAt, hs]
end Mx

namespace Mx
open Go
variable {M : Nat → Option Body}
theorem holds_isNone (a : Box) (g : Int) : holds a g = !(mailIn a.mails g).isNone := by
  unfold holds
  cases q : mailO a.mails g with
  | none => rw [mailO_in_none.1 q]; rfl
  | some k =>
    obtain ⟨_, h⟩ := mailO_in_some q
    rw [h]
    exact decide_eq_true (Int.natCast_nonneg k)
def upTo (a b : List Mail) (i : Nat) : List Mail := firstM a b ++ (b.take i).filter fun m => (mailIn a m.gid).isNone
theorem upTo_all (a b : List Mail) : upTo a b b.length = allM a b := by
  unfold upTo allM firstM
  rw [List.take_length]
  congr 1
theorem upTo_zero (a b : List Mail) : upTo a b 0 = firstM a b := by simp [upTo]
theorem upTo_len (a b : List Mail) (i : Nat) (hi : i ≤ b.length) : (upTo a b i).length ≤ a.length + i := by
  have := List.length_filter_le (fun m : Mail => (mailIn a m.gid).isNone) (b.take i)
  simp only [upTo, List.length_append, firstM_len]
  simp at this; omega
def jbS (u2 u3 : Nat) (a b : Box) (s : JdS) : St := { t := [(2, .c (.ptr 2 u2 0 0)), (3, .c (.ptr 3 u3 0 0)), (6, .c (.row 16 s.v 0 (upTo a.mails b.mails s.i).length)), (44, .c (mails b.mails)), (45, .c (I b.mails.length)), (46, .c (I s.i))], o := jdO u2 u3 a b s.v ((upTo a.mails b.mails s.i).map encMail), n := s.n }
def jbE (u2 u3 : Nat) (a b : Box) (s : JdS) : St := { t := [(2, .c (.ptr 2 u2 0 0)), (3, .c (.ptr 3 u3 0 0)), (6, .c (.row 16 s.v 0 (upTo a.mails b.mails s.i).length)), (44, .c (mails b.mails)), (45, .c (I b.mails.length)), (46, .c (I s.i)), (47, .c (.bool false))], o := jdO u2 u3 a b s.v ((upTo a.mails b.mails s.i).map encMail), n := s.n }
set_option maxHeartbeats 1000000 in
theorem jb_turn (K : JdK M) (k u2 u3 : Nat) (a b : Box) (ha : BoxIn a) (hb : BoxIn b) (s : JdS) (hs : s.i < b.mails.length) :
    ∃ v' n', exC (run M) k impl_joined.l1 (jbS u2 u3 a b s) = some (.normal, jbS u2 u3 a b ⟨s.i + 1, v', n'⟩) := by
  obtain ⟨i, v, n⟩ := s
  simp only at hs
  have hma := ha.m
  have hm := hb.m
  have h1 := impl_Holds.says K.holds a b.mails[i].gid ha.m
  have e5 : IntKind.i64.wrap ((i : Int) + 1) = (i : Int) + 1 := wrap_i64 (by omega) (by omega)
  have hl := upTo_len a.mails b.mails i (by omega)
  have e7 : ((upTo a.mails b.mails i).map encMail).length = (upTo a.mails b.mails i).length := by simp
  have e6 : (upTo a.mails b.mails i).length + 1 ≤ 4294967296 := by omega
  have e9 : (b.mails.map encMail).length = b.mails.length := by simp
  have a1 : ∀ hh, (b.mails.map encMail)[i]'hh = encMail b.mails[i] := by intro hh; simp
  have eu : upTo a.mails b.mails (i + 1) = upTo a.mails b.mails i ++ if holds a b.mails[i].gid = true then [] else [b.mails[i]] := by
    simp only [upTo, take_snoc _ _ hs, List.filter_append, List.append_assoc, holds_isNone]
    cases q : (mailIn a.mails b.mails[i].gid).isNone <;> simp [q]
  cases hq : holds a b.mails[i].gid with
  | true =>
    rw [hq] at h1 eu
    simp only [if_true, List.append_nil] at eu
    simp only [jbS, jdO, eu]
    simp only [encBox, mails, ints, encMail, regs] at h1 a1 ⊢
    generalize List.map encMail (upTo a.mails b.mails i) = rr at *
    generalize (upTo a.mails b.mails i).length = nr at *
    generalize a.mails.map encMail = ra at *
    generalize b.mails.map encMail = rb at *
    generalize irow a.gone = ga at *
    generalize irow b.gone = gb at *
    generalize b.mails[i].flags.map encReg = rf at *
    simp (maxSteps := 1000000) [impl_joined.l1, List.range_succ, bs_get, setAt, h1, hs, e5, e6, e7, e9, a1, List.take_of_length_le]
  | false =>
    rw [hq] at h1 eu
    simp only [Bool.false_eq_true, if_false] at eu
    have h2 := impl_copyMail.says K.copy b.mails[i] (hb.f _ (List.getElem_mem hs))
    simp only [jbS, jdO, eu, List.map_append, List.map_cons, List.map_nil, List.length_append, List.length_singleton]
    simp only [encBox, mails, ints, encMail, encMailO, regs] at h1 h2 a1 ⊢
    generalize List.map encMail (upTo a.mails b.mails i) = rr at *
    generalize (upTo a.mails b.mails i).length = nr at *
    generalize a.mails.map encMail = ra at *
    generalize b.mails.map encMail = rb at *
    generalize irow a.gone = ga at *
    generalize irow b.gone = gb at *
    generalize b.mails[i].flags.map encReg = rf at *
    simp (maxSteps := 1000000) [impl_joined.l1, List.range_succ, bs_get, setAt, h1, h2, hs, e5, e6, e7, e9, a1, List.take_of_length_le]
theorem jb_end (k u2 u3 : Nat) (a b : Box) (s : JdS) (hs : ¬ s.i < b.mails.length) :
    ∃ n', exC (run M) k impl_joined.l1 (jbS u2 u3 a b s) = some (.exit 2, jbE u2 u3 a b ⟨s.i, s.v, n'⟩) := by
  obtain ⟨i, v, n⟩ := s
  simp only at hs
  simp only [jbS, jbE, jdO]
  generalize List.map encMail (upTo a.mails b.mails i) = rr at *
  simp only [encBox, mails, ints]
  generalize a.mails.map encMail = ra at *
  generalize b.mails.map encMail = rb at *
  simp (maxSteps := 1000000) [impl_joined.l1, List.range_succ, bs_get, setAt, hs]
/-- the first i have their numbers -/
def asgTo (need : Int → Bool) (nx : Int) (l : List Mail) (i : Nat) : List Mail := (assignU need nx (l.take i)).1 ++ l.drop i
def asgN (need : Int → Bool) (nx : Int) (l : List Mail) (i : Nat) : Int := (assignU need nx (l.take i)).2
theorem assignU_snoc (need : Int → Bool) (m : Mail) : ∀ (l : List Mail) (n : Int), assignU need n (l ++ [m]) = if need m.gid = true then ((assignU need n l).1 ++ [{ m with uid := (assignU need n l).2 }], (assignU need n l).2 + 1) else ((assignU need n l).1 ++ [m], (assignU need n l).2)
  | [], n => by simp [assignU]
  | a :: l, n => by
    simp only [List.cons_append, assignU, assignU_snoc need m l]
    by_cases c : need a.gid = true <;> by_cases c2 : need m.gid = true <;> simp [c, c2]
theorem assignU_len (need : Int → Bool) : ∀ (l : List Mail) (n : Int), (assignU need n l).1.length = l.length
  | [], n => rfl
  | a :: l, n => by
    simp only [assignU]
    split <;> simp [assignU_len need l]
theorem asgTo_len (need : Int → Bool) (nx : Int) (l : List Mail) (i : Nat) : (asgTo need nx l i).length = l.length := by
  simp only [asgTo, List.length_append, assignU_len, List.length_take, List.length_drop]; omega
theorem asgTo_at (need : Int → Bool) (nx : Int) (l : List Mail) (i : Nat) (h : i < l.length) : (asgTo need nx l i)[i]'(by rw [asgTo_len]; exact h) = l[i] := by
  have e : (assignU need nx (l.take i)).1.length = i := by rw [assignU_len]; simp; omega
  simp only [asgTo]
  rw [List.getElem_append_right (by omega)]
  simp [e]
theorem asgTo_succ (need : Int → Bool) (nx : Int) (l : List Mail) (i : Nat) (h : i < l.length) :
    asgTo need nx l (i + 1) = if need l[i].gid = true then (asgTo need nx l i).set i { l[i] with uid := asgN need nx l i } else asgTo need nx l i := by
  have e : (assignU need nx (l.take i)).1.length = i := by rw [assignU_len]; simp; omega
  have hd : l.drop i = l[i] :: l.drop (i + 1) := List.drop_eq_getElem_cons h
  simp only [asgTo, asgN, take_snoc l i h, assignU_snoc]
  by_cases c : need l[i].gid = true
  · rw [if_pos c, if_pos c, List.set_append_right _ _ (by omega), e, Nat.sub_self]
    simp
    rw [hd]; rfl
  · rw [if_neg c, if_neg c, hd]
    simp
theorem asgN_succ (need : Int → Bool) (nx : Int) (l : List Mail) (i : Nat) (h : i < l.length) : asgN need nx l (i + 1) = if need l[i].gid = true then asgN need nx l i + 1 else asgN need nx l i := by
  simp only [asgN, take_snoc l i h, assignU_snoc]
  split <;> rfl
theorem asgN_range (need : Int → Bool) (nx : Int) (l : List Mail) (i : Nat) : nx ≤ asgN need nx l i ∧ asgN need nx l i ≤ nx + l.length := by
  have h := assignU_next need (l.take i) nx
  simp only [asgN]
  have : (l.take i).length ≤ l.length := by simp; omega
  omega
structure JcS where
  i : Nat
  v : Nat
  n : Nat
def jcS (u2 u3 : Nat) (a b : Box) (need : Int → Bool) (nx : Int) (l : List Mail) (Z : List (List T)) (s : JcS) : St := { t := [(2, .c (.ptr 2 u2 0 0)), (3, .c (.ptr 3 u3 0 0)), (6, .c (.row 16 s.v 0 l.length)), (13, .c (I (asgN need nx l s.i))), (76, .c (.row 16 s.v 0 l.length)), (77, .c (I l.length)), (78, .c (I s.i))], o := jdO u2 u3 a b s.v ((asgTo need nx l s.i).map encMail ++ Z), n := s.n }
def jcE (u2 u3 : Nat) (a b : Box) (need : Int → Bool) (nx : Int) (l : List Mail) (Z : List (List T)) (s : JcS) : St := { t := [(2, .c (.ptr 2 u2 0 0)), (3, .c (.ptr 3 u3 0 0)), (6, .c (.row 16 s.v 0 l.length)), (13, .c (I (asgN need nx l s.i))), (76, .c (.row 16 s.v 0 l.length)), (77, .c (I l.length)), (78, .c (I s.i)), (79, .c (.bool false))], o := jdO u2 u3 a b s.v ((asgTo need nx l s.i).map encMail ++ Z), n := s.n }
set_option maxHeartbeats 4000000 in
theorem jc_turn (K : JdK M) (k u2 u3 : Nat) (a b : Box) (ha : BoxIn a) (hb : BoxIn b) (nx : Int) (hnx : -1000000000 ≤ nx ∧ nx ≤ 4611686018427387904) (l : List Mail) (hl : l.length ≤ 1048576) (Z : List (List T)) (s : JcS) (hs : s.i < l.length) :
    ∃ n', exC (run M) k impl_joined.l2 (jcS u2 u3 a b (needs a b) nx l Z s) = some (.normal, jcS u2 u3 a b (needs a b) nx l Z ⟨s.i + 1, s.v, n'⟩) := by
  obtain ⟨i, v, n⟩ := s
  simp only at hs
  have h1 := impl_Holds.says K.holds a l[i].gid ha.m
  have h2 := impl_Holds.says K.holds b l[i].gid hb.m
  have h3 := impl_KeepsUid.says K.keeps a b l[i].gid ha.m hb.m
  have h4 := impl_KeepsUid.says K.keeps b a l[i].gid hb.m ha.m
  have e5 : IntKind.i64.wrap ((i : Int) + 1) = (i : Int) + 1 := wrap_i64 (by omega) (by omega)
  have hr := asgN_range (needs a b) nx l i
  have e6 : IntKind.i64.wrap (asgN (needs a b) nx l i + 1) = asgN (needs a b) nx l i + 1 := wrap_i64 (by omega) (by omega)
  have e7 : i < ((asgTo (needs a b) nx l i).map encMail ++ Z).length := by simp [asgTo_len]; omega
  have a1 : ∀ hh, ((asgTo (needs a b) nx l i).map encMail ++ Z)[i]'hh = encMail l[i] := by
    intro hh
    rw [List.getElem_append_left (by simp [asgTo_len]; omega)]
    simp only [List.getElem_map, asgTo_at _ _ _ _ hs]
  have t1 := asgTo_succ (needs a b) nx l i hs
  have t2 := asgN_succ (needs a b) nx l i hs
  have t3 : ((asgTo (needs a b) nx l (i + 1)).map encMail ++ Z) = if needs a b l[i].gid = true then ((asgTo (needs a b) nx l i).map encMail ++ Z).set i (encMail { l[i] with uid := asgN (needs a b) nx l i }) else (asgTo (needs a b) nx l i).map encMail ++ Z := by
    rw [t1]
    split
    · rw [List.map_set, List.set_append_left _ _ (by simp [asgTo_len]; omega)]
    · rfl
  simp only [jcS, jdO, t2, t3]
  have hn : needs a b l[i].gid = (holds a l[i].gid && !keepsUid a b l[i].gid || holds b l[i].gid && !keepsUid b a l[i].gid) := rfl
  rw [hn]
  clear hn t1 t2 t3
  generalize (asgTo (needs a b) nx l i).map encMail ++ Z = rr at *
  generalize asgN (needs a b) nx l i = z at *
  generalize holds a l[i].gid = p1 at *
  generalize holds b l[i].gid = p2 at *
  generalize keepsUid a b l[i].gid = p3 at *
  generalize keepsUid b a l[i].gid = p4 at *
  simp only [encBox, mails, ints, encMail, regs] at h1 h2 h3 h4 a1 ⊢
  generalize a.mails.map encMail = ra at *
  generalize b.mails.map encMail = rb at *
  generalize irow a.gone = ga at *
  generalize irow b.gone = gb at *
  generalize l[i] = m at *
  generalize m.flags.map encReg = rf at *
  generalize l.length = N at *
  cases p1 <;> cases p2 <;> cases p3 <;> cases p4 <;> simp (maxSteps := 1000000) [impl_joined.l2, List.range_succ, bs_get, setAt, h1, h2, h3, h4, hs, e5, e6, e7, a1, List.take_of_length_le]
theorem jc_end (k u2 u3 : Nat) (a b : Box) (need : Int → Bool) (nx : Int) (l : List Mail) (Z : List (List T)) (s : JcS) (hs : ¬ s.i < l.length) :
    ∃ n', exC (run M) k impl_joined.l2 (jcS u2 u3 a b need nx l Z s) = some (.exit 4, jcE u2 u3 a b need nx l Z ⟨s.i, s.v, n'⟩) := by
  obtain ⟨i, v, n⟩ := s
  simp only at hs
  simp only [jcS, jcE, jdO]
  generalize (asgTo need nx l i).map encMail ++ Z = rr at *
  generalize asgN need nx l i = z at *
  simp only [encBox, mails, ints]
  generalize a.mails.map encMail = ra at *
  generalize b.mails.map encMail = rb at *
  simp (maxSteps := 1000000) [impl_joined.l2, List.range_succ, bs_get, setAt, hs]
end Mx

namespace Mx
open Go
variable {M : Nat → Option Body}
theorem asgTo_zero (need : Int → Bool) (nx : Int) (l : List Mail) : asgTo need nx l 0 = l := by simp [asgTo, assignU]
theorem asgN_zero (need : Int → Bool) (nx : Int) (l : List Mail) : asgN need nx l 0 = nx := by simp [asgN, assignU]
theorem asgTo_all (need : Int → Bool) (nx : Int) (l : List Mail) : asgTo need nx l l.length = (assignU need nx l).1 := by simp [asgTo]
theorem asgN_all (need : Int → Bool) (nx : Int) (l : List Mail) : asgN need nx l l.length = (assignU need nx l).2 := by simp [asgN]
theorem firstM_all (a b : List Mail) : (firstM a b).take a.length = firstM a b := List.take_of_length_le (by rw [firstM_len]; exact Nat.le_refl _)
theorem ja_loop (K : JdK M) (k u2 u3 : Nat) (a b : Box) (ha : BoxIn a) (hb : BoxIn b) (v n : Nat) (hk : a.mails.length < k) :
    ∃ v' n', loopN (exC (run M) k impl_joined.l0) k (jaS u2 u3 a b ⟨0, v, n⟩) = some (.exit 0, jaE u2 u3 a b ⟨a.mails.length, v', n'⟩) := by
  obtain ⟨r, hr, ⟨⟨i, v', n'⟩, rfl, hi⟩⟩ := loop_ex (f := exC (run M) k impl_joined.l0) (jaS u2 u3 a b) (fun s => s.i ≤ a.mails.length) (fun s => a.mails.length - s.i) (fun r => ∃ s', r = (.exit 0, jaE u2 u3 a b s') ∧ s'.i = a.mails.length)
    (fun s hs => by
      by_cases c : s.i < a.mails.length
      · left
        obtain ⟨v', n', hh⟩ := ja_turn K k u2 u3 a b ha hb s c
        exact ⟨_, hh, by simp only; omega, by simp only; omega⟩
      · right
        obtain ⟨n', hh⟩ := ja_end (M := M) k u2 u3 a b s c
        exact ⟨_, hh, by simp, _, rfl, by simp only; omega⟩) k ⟨0, v, n⟩ (by simp) (by simp only; omega)
  simp only at hi
  subst hi
  exact ⟨v', n', hr⟩
theorem jb_loop (K : JdK M) (k u2 u3 : Nat) (a b : Box) (ha : BoxIn a) (hb : BoxIn b) (v n : Nat) (hk : b.mails.length < k) :
    ∃ v' n', loopN (exC (run M) k impl_joined.l1) k (jbS u2 u3 a b ⟨0, v, n⟩) = some (.exit 2, jbE u2 u3 a b ⟨b.mails.length, v', n'⟩) := by
  obtain ⟨r, hr, ⟨⟨i, v', n'⟩, rfl, hi⟩⟩ := loop_ex (f := exC (run M) k impl_joined.l1) (jbS u2 u3 a b) (fun s => s.i ≤ b.mails.length) (fun s => b.mails.length - s.i) (fun r => ∃ s', r = (.exit 2, jbE u2 u3 a b s') ∧ s'.i = b.mails.length)
    (fun s hs => by
      by_cases c : s.i < b.mails.length
      · left
        obtain ⟨v', n', hh⟩ := jb_turn K k u2 u3 a b ha hb s c
        exact ⟨_, hh, by simp only; omega, by simp only; omega⟩
      · right
        obtain ⟨n', hh⟩ := jb_end (M := M) k u2 u3 a b s c
        exact ⟨_, hh, by simp, _, rfl, by simp only; omega⟩) k ⟨0, v, n⟩ (by simp) (by simp only; omega)
  simp only at hi
  subst hi
  exact ⟨v', n', hr⟩
theorem jc_loop (K : JdK M) (k u2 u3 : Nat) (a b : Box) (ha : BoxIn a) (hb : BoxIn b) (nx : Int) (hnx : -1000000000 ≤ nx ∧ nx ≤ 4611686018427387904) (l : List Mail) (hl : l.length ≤ 1048576) (Z : List (List T)) (v n : Nat) (hk : l.length < k) :
    ∃ n', loopN (exC (run M) k impl_joined.l2) k (jcS u2 u3 a b (needs a b) nx l Z ⟨0, v, n⟩) = some (.exit 4, jcE u2 u3 a b (needs a b) nx l Z ⟨l.length, v, n'⟩) := by
  obtain ⟨r, hr, ⟨⟨i, v', n'⟩, rfl, hi, hv⟩⟩ := loop_ex (f := exC (run M) k impl_joined.l2) (jcS u2 u3 a b (needs a b) nx l Z) (fun s => s.i ≤ l.length ∧ s.v = v) (fun s => l.length - s.i) (fun r => ∃ s', r = (.exit 4, jcE u2 u3 a b (needs a b) nx l Z s') ∧ s'.i = l.length ∧ s'.v = v)
    (fun s hs => by
      by_cases c : s.i < l.length
      · left
        obtain ⟨n', hh⟩ := jc_turn K k u2 u3 a b ha hb nx hnx l hl Z s c
        exact ⟨_, hh, ⟨by simp only; omega, hs.2⟩, by simp only; omega⟩
      · right
        obtain ⟨n', hh⟩ := jc_end (M := M) k u2 u3 a b (needs a b) nx l Z s c
        have := hs.1
        exact ⟨_, hh, by simp, _, rfl, by simp only; omega, hs.2⟩) k ⟨0, v, n⟩ ⟨by simp, rfl⟩ (by simp only; omega)
  simp only at hi hv
  subst hi
  subst hv
  exact ⟨n', hr⟩
theorem gput_le (l : List Int) (x : Int) : (gput l x).length ≤ l.length + 1 := by
  have h : ∀ l : List Int, (l.filter (fun y => decide (y < x))).length + (l.filter (fun y => decide (x < y))).length ≤ l.length := by
    intro l
    induction l with
    | nil => simp
    | cons a l ih =>
      simp only [List.filter_cons]
      by_cases c1 : a < x
      · have c2 : ¬ x < a := by omega
        simp [c1, c2]; omega
      · by_cases c2 : x < a
        · simp [c1, c2]; omega
        · simp [c1, c2]; omega
  have := h l
  simp only [gput, List.length_append, List.length_singleton]; omega
theorem joinGone_le (a b : List Int) : (joinGone a b).length ≤ a.length + b.length := by
  have key : ∀ (l acc : List Int), (l.foldl gadd acc).length ≤ l.length + acc.length := by
    intro l
    induction l with
    | nil => intro acc; simp
    | cons x l ih =>
      intro acc
      have h1 := ih (gadd acc x)
      have h2 : (gadd acc x).length ≤ acc.length + 1 := by
        unfold gadd
        split
        · omega
        · exact gput_le acc x
      simp only [List.foldl_cons, List.length_cons]; omega
  have := key (a ++ b) []
  simp only [List.length_append, List.length_nil] at this
  exact this
theorem max_int (a b : Int) : Max.max a b = if a < b then b else a := by split <;> omega
set_option maxHeartbeats 4000000 in
theorem impl_joined.says (h : impl_joined.k M) (a b : Box) (ha : BoxIn a) (hb : BoxIn b) (hall : (allM a.mails b.mails).length ≤ 20) (hna : -1000000000 ≤ a.next ∧ a.next ≤ 4611686018427387904) (hnb : -1000000000 ≤ b.next ∧ b.next ≤ 4611686018427387904) :
    run M 437 [.a (encBox a), .a (encBox b)] [] = some (.tup [.c (.sl true 4 ((joinedI a b).1.map encMail)), .c (I (joinedI a b).2)], []) := by
  obtain ⟨h0, kh, kk, kg, ka, kc, kj, kd, k1, ks, k2, k3⟩ := h
  have K : JdK M := ⟨kh, kk, kg, ka, kc, kj, kd, k1, ks, k2, k3⟩
  have hma := ha.m
  have hmb := hb.m
  refine run_code (b := impl_joined.m) h0 ⟨a.mails.length + b.mails.length + 21, ?_⟩
  generalize hk : a.mails.length + b.mails.length + 21 = k
  obtain ⟨v1, n1, r1⟩ := ja_loop K k 2000000 2000016 a b ha hb 2000064 2000160 (by omega)
  obtain ⟨v2, n2, r2⟩ := jb_loop K k 2000000 2000016 a b ha hb v1 (n1 + 64) (by omega)
  have h4 := impl_JoinGone.says kg a.gone b.gone ha.g hb.g
  have hG : (joinGone a.gone b.gone).length ≤ 4194304 := by
    have := joinGone_le a.gone b.gone
    have := ha.g
    have := hb.g
    omega
  have hc1 := fun m => impl_joined_1.says k1 m (joinGone a.gone b.gone) hG
  have h5 := slices_DeleteFunc_impl_Mail_impl_Mail.says kd hc1 (allM a.mails b.mails) (by omega)
  have hkl : ((allM a.mails b.mails).filter fun m => !decide (m.gid ∈ joinGone a.gone b.gone)).length ≤ (allM a.mails b.mails).length := List.length_filter_le _ _
  have h6 := slices_SortStableFunc_impl_Mail_impl_Mail.says ks (k := fun m : Mail => m.gid) (impl_joined_2.says k2) ((allM a.mails b.mails).filter fun m => !decide (m.gid ∈ joinGone a.gone b.gone)) (List.replicate ((allM a.mails b.mails).length - ((allM a.mails b.mails).filter fun m => !decide (m.gid ∈ joinGone a.gone b.gone)).length) mzero) (by omega)
  have hj : joinedI a b = (sortBy (·.uid) (assignU (needs a b) (Max.max a.next b.next) (sortBy (·.gid) ((allM a.mails b.mails).filter fun m => !decide (m.gid ∈ joinGone a.gone b.gone)))).1, (assignU (needs a b) (Max.max a.next b.next) (sortBy (·.gid) ((allM a.mails b.mails).filter fun m => !decide (m.gid ∈ joinGone a.gone b.gone)))).2) := rfl
  rw [hj]
  have el0 : ((allM a.mails b.mails).map encMail).length = (allM a.mails b.mails).length := by simp
  have eF : firstM a.mails b.mails = firstM a.mails b.mails := rfl
  have hfl := firstM_len a.mails b.mails
  simp only [jaS, jaE, jdO, List.take_zero, List.map_nil, firstM_all] at r1
  simp only [jbS, jbE, jdO, upTo_zero, upTo_all, hfl] at r2
  simp only [mRow, List.append_nil] at h5 h6
  generalize hz : List.replicate ((allM a.mails b.mails).length - ((allM a.mails b.mails).filter fun m => !decide (m.gid ∈ joinGone a.gone b.gone)).length) mzero = Z at *
  generalize hl1 : ((allM a.mails b.mails).filter fun m => !decide (m.gid ∈ joinGone a.gone b.gone)) = l1 at *
  have hl2 : (sortBy (fun m : Mail => m.gid) l1).length = l1.length := sortBy_len _
  generalize hs2 : sortBy (fun m : Mail => m.gid) l1 = l2 at *
  obtain ⟨n3, r3⟩ := jc_loop K k 2000000 2000016 a b ha hb (Max.max a.next b.next) (by omega) l2 (by omega) Z v2 (n2 + 112 + 64 + 32 + 96 + 48) (by omega)
  have h7 := slices_SortStableFunc_impl_Mail_impl_Mail.says ks (k := fun m : Mail => m.uid) (impl_joined_3.says k3) (assignU (needs a b) (Max.max a.next b.next) l2).1 Z (by rw [assignU_len]; omega)
  rw [assignU_len] at h7
  simp only [jcS, jcE, jdO, asgTo_zero, asgN_zero, asgTo_all, asgN_all] at r3
  simp only [mRow] at h7
  have el1 : l1.length ≤ (l1.map encMail ++ Z).length := by simp
  have el2 : l2.length ≤ (l2.map encMail ++ Z).length := by simp
  have el3 : l2.length ≤ ((assignU (needs a b) (Max.max a.next b.next) l2).1.map encMail ++ Z).length := by simp [assignU_len]
  have el4 : l2.length ≤ ((sortBy (fun m : Mail => m.uid) (assignU (needs a b) (Max.max a.next b.next) l2).1).map encMail ++ Z).length := by simp [sortBy_len, assignU_len]
  have el5 : (((sortBy (fun m : Mail => m.uid) (assignU (needs a b) (Max.max a.next b.next) l2).1).map encMail ++ Z).take l2.length) = (sortBy (fun m : Mail => m.uid) (assignU (needs a b) (Max.max a.next b.next) l2).1).map encMail := by
    rw [List.take_append_of_le_length (by simp [sortBy_len, assignU_len])]
    exact List.take_of_length_le (by simp [sortBy_len, assignU_len])
  have em := max_int a.next b.next
  have ea : (a.mails.map encMail).length = a.mails.length := by simp
  have eb : (b.mails.map encMail).length = b.mails.length := by simp
  have ez : ((0 : Nat) : Int) = 0 := rfl
  simp only [ez] at r1 r2 r3
  generalize (assignU (needs a b) (Max.max a.next b.next) l2).2 = nz at *
  simp only
  generalize (sortBy (fun m : Mail => m.uid) (assignU (needs a b) (Max.max a.next b.next) l2).1).map encMail = R4 at *
  generalize R4 ++ Z = R4Z at *
  generalize (assignU (needs a b) (Max.max a.next b.next) l2).1.map encMail ++ Z = R3Z at *
  generalize hmx : Max.max a.next b.next = mx at *
  generalize l2.map encMail ++ Z = R2Z at *
  generalize l1.map encMail ++ Z = R1Z at *
  rw [hl2] at *
  clear hl1 hs2 hz hj hc1 K
  generalize (allM a.mails b.mails).map encMail = R0 at *
  generalize (allM a.mails b.mails).length = N0 at *
  generalize (firstM a.mails b.mails).map encMail = RF at *
  generalize l1.length = N1 at *
  simp only [encBox, mails, ints] at *
  generalize a.mails.map encMail = ra at *
  generalize b.mails.map encMail = rb at *
  generalize irow (joinGone a.gone b.gone) = gj at *
  generalize irow a.gone = ga at *
  generalize irow b.gone = gb at *
  by_cases c : a.next < b.next
  · rw [if_pos c] at em
    subst em
    simp (maxSteps := 1000000) [exB, impl_joined.m, impl_joined.b, List.range_succ, bs_get, setAt, r1, r2, r3, h4, h5, h6, h7, c, ea, eb, el0, el1, el2, el3, el4, el5, List.take_of_length_le]
  · rw [if_neg c] at em
    subst em
    simp (maxSteps := 1000000) [exB, impl_joined.m, impl_joined.b, List.range_succ, bs_get, setAt, r1, r2, r3, h4, h5, h6, h7, c, ea, eb, el0, el1, el2, el3, el4, el5, List.take_of_length_le]
end Mx

namespace Mx
open Go
variable {M : Nat → Option Body}
/-- what is asked of two boxes that are joined -/
structure Joins (a b : Box) : Prop where
  ia : BoxIn a
  ib : BoxIn b
  ga : a.gone.length ≤ 500000
  gb : b.gone.length ≤ 500000
  na : (gids a.mails).Nodup
  nb : (gids b.mails).Nodup
  all : (allM a.mails b.mails).length ≤ 20
  xa : -1000000000 ≤ a.next ∧ a.next ≤ 1000000000
  xb : -1000000000 ≤ b.next ∧ b.next ≤ 1000000000
theorem joined_count {a b : Box} (h : Joins a b) : (joinedS a b).1.length ≤ 20 := by
  rw [← joined_eq h.na h.nb]
  simp only [joinedI, sortBy_len, assignU_len]
  exact Nat.le_trans (List.length_filter_le _ _) h.all
set_option maxHeartbeats 4000000 in
theorem impl_JoinBox.says (h : impl_JoinBox.k M) (a b : Box) (H : Joins a b) : run M 401 [.a (encBox a), .a (encBox b)] [] = some (.a (encBoxO (joinBox a b)), []) := by
  obtain ⟨h0, kg, kc, kl, kj⟩ := h
  have h1 := impl_copyBox.says kc a H.ia
  have h2 := impl_JoinGone.says kg a.gone b.gone H.ia.g H.ib.g
  have h3 := impl_Later.says kl b.time b.who a.time a.who
  have h4 := impl_Later.says kl a.time a.who b.time b.who
  have h5 := impl_joined.says kj a b H.ia H.ib H.all (by have := H.xa; omega) (by have := H.xb; omega)
  rw [joined_eq H.na H.nb] at h5
  have e1 : (joinGone a.gone b.gone).length ≤ 4194304 := by
    have := joinGone_le a.gone b.gone
    have := H.ia.g
    have := H.ib.g
    omega
  have e2 := irow_length (joinGone a.gone b.gone)
  have e3 : ((joinedS a b).1.map encMail).length = (joinedS a b).1.length := by simp
  have e4 : (a.mails.map encMail).length = a.mails.length := by simp
  have e5 := irow_length a.gone
  have e6 := bless_gtr a.name b.name
  refine run_code (b := impl_JoinBox.m) h0 ⟨0, ?_⟩
  unfold joinBox
  by_cases c : a.gid = b.gid
  · rw [if_pos c]
    generalize later b.time b.who a.time a.who = x at *
    generalize later a.time a.who b.time b.who = y at *
    generalize hw : bless a.name b.name = w at *
    clear hw
    simp only [encBox, encBoxO, mails, ints] at *
    generalize (joinedS a b).1.map encMail = rj at *
    generalize (joinedS a b).1.length = nj at *
    generalize (joinedS a b).2 = xj at *
    generalize irow (joinGone a.gone b.gone) = gj at *
    generalize a.mails.map encMail = ra at *
    generalize b.mails.map encMail = rb at *
    generalize irow a.gone = ga at *
    generalize irow b.gone = gb at *
    rw [c] at h5
    cases x <;> cases y <;> cases w <;> simp (maxSteps := 1000000) [exB, impl_JoinBox.m, impl_JoinBox.b, List.range_succ, bs_get, setAt, h2, h3, h4, h5, c, e1, e2, e3, e6, List.take_of_length_le]
  · rw [if_neg c]
    simp only [encBox, encBoxO, mails, ints] at *
    generalize a.mails.map encMail = ra at *
    generalize b.mails.map encMail = rb at *
    generalize irow a.gone = ga at *
    generalize irow b.gone = gb at *
    simp (maxSteps := 1000000) [exB, impl_JoinBox.m, impl_JoinBox.b, List.range_succ, bs_get, setAt, h1, c, e4, e5, List.take_of_length_le]
theorem impl_JoinMails.says (h : impl_JoinMails.k M) (a b : Box) (H : Joins a b) : run M 415 [.a (encBox a), .a (encBox b)] [] = some (.c (.sl true 4 ((joinedS a b).1.map encMail)), []) := by
  obtain ⟨h0, kj⟩ := h
  have h5 := impl_joined.says kj a b H.ia H.ib H.all (by have := H.xa; omega) (by have := H.xb; omega)
  rw [joined_eq H.na H.nb] at h5
  have e3 : ((joinedS a b).1.map encMail).length = (joinedS a b).1.length := by simp
  refine run_code (b := impl_JoinMails.m) h0 ⟨0, ?_⟩
  simp only [encBox, encBoxO, mails, ints] at *
  generalize (joinedS a b).1.map encMail = rj at *
  generalize (joinedS a b).2 = xj at *
  generalize a.mails.map encMail = ra at *
  generalize b.mails.map encMail = rb at *
  generalize irow a.gone = ga at *
  generalize irow b.gone = gb at *
  simp (maxSteps := 1000000) [exB, impl_JoinMails.m, impl_JoinMails.b, List.range_succ, bs_get, setAt, h5, e3, List.take_of_length_le]
theorem joined_flags {a b : Box} (H : Joins a b) : ∀ m ∈ (joinedS a b).1, m.flags.length ≤ 1048576 := by
  intro m hm
  obtain ⟨m0, h1, h2, h3, _, _⟩ := assignU_mem _ _ _ m ((joinedS_perm H.na H.nb).mem_iff.1 hm)
  obtain ⟨g, hg, rfl⟩ := List.mem_map.1 h1
  rw [h3]
  unfold joinM
  cases q1 : mailIn a.mails g with
  | some x =>
    have hx := H.ia.f x (mailIn_some q1).1
    cases q2 : mailIn b.mails g with
    | some y => exact Nat.le_trans (joinMail_flags _ _) hx
    | none => exact hx
  | none =>
    cases q2 : mailIn b.mails g with
    | some y => exact H.ib.f y (mailIn_some q2).1
    | none => simp
theorem joinBox_in {a b : Box} (H : Joins a b) : BoxIn (joinBox a b) := by
  unfold joinBox
  split
  · refine ⟨by have := joined_count H; simp only; omega, ?_, ?_, joined_flags H⟩
    · have := joinGone_le a.gone b.gone
      have := H.ga
      have := H.gb
      simp only; omega
    · simp only; split
      · exact H.ib.n
      · exact H.ia.n
  · exact H.ia
end Mx

namespace Mx
open Go
variable {M : Nat → Option Body}
theorem allM_le (a b : List Mail) : (allM a b).length ≤ a.length + b.length := by
  have := List.length_filter_le (fun m : Mail => (mailIn a m.gid).isNone) b
  simp only [allM, List.length_append, List.length_map]; omega
theorem Good.joins {a b : Box} (ha : Good a) (hb : Good b) : Joins a b :=
  ⟨ha.inB, hb.inB, by have := ha.goneL; omega, by have := hb.goneL; omega, ha.nd, hb.nd, by have := allM_le a.mails b.mails; have := ha.len; have := hb.len; omega, by have := ha.next; omega, by have := hb.next; omega⟩
theorem spec_DrawTwoBoxes.says (h : spec_DrawTwoBoxes.k M) {R : List (List T)} (hR : Bytes R) :
    ∃ x y : Box, Apart x ∧ Apart y ∧ run M 400 [.c (.sl false 1 R)] [] = some (.tup [.a (encBoxO x), .a (encBoxO y)], []) := by
  obtain ⟨h0, k1, k2⟩ := h
  obtain ⟨q0, h1⟩ := spec_l01New.says k1 hR
  obtain ⟨x, y, i', q', ⟨hx, hy⟩, hi', h2⟩ := spec_l08Two.says k2 hR 0 q0 (Nat.zero_le _)
  have e0 : ((0 : Nat) : Int) = 0 := rfl
  simp only [curD, e0] at h2
  refine ⟨x, y, hx, hy, run_code (b := spec_DrawTwoBoxes.m) h0 ⟨0, ?_⟩⟩
  have l3 : (x.mails.map encMail).length = x.mails.length := by simp
  have l4 := irow_length x.gone
  have l5 : (y.mails.map encMail).length = y.mails.length := by simp
  have l6 := irow_length y.gone
  simp only [encBoxO] at h2 ⊢
  generalize x.mails.map encMail = rx at *
  generalize irow x.gone = gx at *
  generalize y.mails.map encMail = ry at *
  generalize irow y.gone = gy at *
  simp (maxSteps := 1000000) [exB, spec_DrawTwoBoxes.m, spec_DrawTwoBoxes.b, List.range_succ, bs_get, setAt, h1, h2, l3, l4, l5, l6, List.take_of_length_le]
set_option maxHeartbeats 1000000 in
theorem spec_l08Pair.says (h : spec_l08Pair.k M) {R : List (List T)} (hR : Bytes R) :
    ∃ x y : Box, Joins x y ∧ run M 438 [.c (.sl false 1 R)] [] = some (.tup [.a (encBoxO x), .a (encBoxO y)], []) := by
  obtain ⟨h0, k1, k2, k3, k4⟩ := h
  obtain ⟨q0, h1⟩ := spec_l01New.says k1 hR
  obtain ⟨z, i1, q1, hz, hi1, h2⟩ := spec_l01Below.says k2 hR 0 q0 (Nat.zero_le _) 6 (by omega) (by omega)
  have e0 : ((0 : Nat) : Int) = 0 := rfl
  by_cases c : z = 0
  · subst c
    obtain ⟨x, i2, q2, ⟨⟨hx1, hx2⟩, hx3, hx4, hx5, hx6⟩, hi2, h3⟩ := spec_l06Any.wild k3 hR i1 q1 hi1
    obtain ⟨y, i3, q3, ⟨⟨hy1, hy2⟩, hy3, hy4, hy5, hy6⟩, hi3, h4⟩ := spec_l06Any.wild k3 hR i2 q2 hi2
    refine ⟨x, y, ⟨hx1, hy1, by omega, by omega, List.pairwise_map.2 hx2, List.pairwise_map.2 hy2, by have := allM_le x.mails y.mails; omega, by omega, by omega⟩, run_code (b := spec_l08Pair.m) h0 ⟨0, ?_⟩⟩
    simp only [curD, e0, Int.cast_ofNat_Int] at h2 h3 h4
    have l3 : (x.mails.map encMail).length = x.mails.length := by simp
    have l4 := irow_length x.gone
    have l5 : (y.mails.map encMail).length = y.mails.length := by simp
    have l6 := irow_length y.gone
    simp only [encBoxO] at h3 h4 ⊢
    generalize x.mails.map encMail = rx at *
    generalize irow x.gone = gx at *
    generalize y.mails.map encMail = ry at *
    generalize irow y.gone = gy at *
    simp (maxSteps := 1000000) [exB, spec_l08Pair.m, spec_l08Pair.b, List.range_succ, bs_get, setAt, h1, h2, h3, h4, l3, l4, l5, l6, List.take_of_length_le]
  · obtain ⟨x, y, i', q', ⟨hx, hy⟩, hi', h3⟩ := spec_l08Two.says k4 hR i1 q1 hi1
    refine ⟨x, y, hx.good.joins hy.good, run_code (b := spec_l08Pair.m) h0 ⟨0, ?_⟩⟩
    have c2 : ¬ (z : Int) = 0 := by omega
    simp only [curD, e0, Int.cast_ofNat_Int] at h2 h3
    have l3 : (x.mails.map encMail).length = x.mails.length := by simp
    have l4 := irow_length x.gone
    have l5 : (y.mails.map encMail).length = y.mails.length := by simp
    have l6 := irow_length y.gone
    simp only [encBoxO] at h3 ⊢
    generalize x.mails.map encMail = rx at *
    generalize irow x.gone = gx at *
    generalize y.mails.map encMail = ry at *
    generalize irow y.gone = gy at *
    simp (maxSteps := 1000000) [exB, spec_l08Pair.m, spec_l08Pair.b, List.range_succ, bs_get, setAt, h1, h2, h3, c, c2, l3, l4, l5, l6, List.take_of_length_le]
theorem spec_DrawJoinBox.says (h : spec_DrawJoinBox.k M) {R : List (List T)} (hR : Bytes R) :
    ∃ x y : Box, Joins x y ∧ run M 404 [.c (.sl false 1 R)] [] = some (.tup [.a (encBoxO x), .a (encBoxO y)], []) := by
  obtain ⟨h0, k1⟩ := h
  obtain ⟨x, y, hx, h2⟩ := spec_l08Pair.says k1 hR
  refine ⟨x, y, hx, run_code (b := spec_DrawJoinBox.m) h0 ⟨0, ?_⟩⟩
  have l3 : (x.mails.map encMail).length = x.mails.length := by simp
  have l4 := irow_length x.gone
  have l5 : (y.mails.map encMail).length = y.mails.length := by simp
  have l6 := irow_length y.gone
  simp only [encBoxO] at h2 ⊢
  generalize x.mails.map encMail = rx at *
  generalize irow x.gone = gx at *
  generalize y.mails.map encMail = ry at *
  generalize irow y.gone = gy at *
  simp (maxSteps := 1000000) [exB, spec_DrawJoinBox.m, spec_DrawJoinBox.b, List.range_succ, bs_get, setAt, h2, l3, l4, l5, l6, List.take_of_length_le]
theorem spec_DrawKeepsUid.says (h : spec_DrawKeepsUid.k M) {R : List (List T)} (hR : Bytes R) :
    ∃ (x y : Box) (g : Int), Joins x y ∧ run M 414 [.c (.sl false 1 R)] [] = some (.tup [.a (encBoxO x), .a (encBoxO y), .c (I g)], []) := by
  obtain ⟨h0, k1, k2, k3⟩ := h
  obtain ⟨q0, h1⟩ := spec_l01New.says k1 hR
  obtain ⟨g, i1, q1, hg, hi1, h2⟩ := spec_l01PickInt.says k2 hR 0 q0 (Nat.zero_le _) [10, 11, 12, 20, 21, 30, 31, 99] (by decide) (by decide)
  obtain ⟨x, y, hx, h3⟩ := spec_l08Pair.says k3 hR
  refine ⟨x, y, g, hx, run_code (b := spec_DrawKeepsUid.m) h0 ⟨0, ?_⟩⟩
  have e0 : ((0 : Nat) : Int) = 0 := rfl
  simp only [curD, e0] at h2
  have l3 : (x.mails.map encMail).length = x.mails.length := by simp
  have l4 := irow_length x.gone
  have l5 : (y.mails.map encMail).length = y.mails.length := by simp
  have l6 := irow_length y.gone
  simp only [encBoxO, ints, irow, List.map_cons, List.map_nil] at h2 h3 ⊢
  generalize x.mails.map encMail = rx at *
  generalize y.mails.map encMail = ry at *
  simp only [irow] at l4 l6
  generalize x.gone.map _ = gx at *
  generalize y.gone.map _ = gy at *
  simp (maxSteps := 1000000) [exB, spec_DrawKeepsUid.m, spec_DrawKeepsUid.b, List.range_succ, bs_get, setAt, h1, h2, h3, l3, l4, l5, l6, List.take_of_length_le]
structure DgS where
  i : Nat
  a : List Int
  b : List Int
  v1 : Nat
  v2 : Nat
  vc : Nat
  ic : Nat
  q : Int
  n : Nat
def dgO (R : List (List T)) (s : DgS) : List (Nat × Ob) := [(10, ⟨s.v1, 1, true, false, irow s.a⟩), (11, ⟨s.v2, 1, true, false, irow s.b⟩), (10900, ⟨s.vc, 3, true, true, [[.sl false 1 R, I s.ic, I s.q]]⟩)]
def dgS (R : List (List T)) (s : DgS) : St := { t := [(4, .c (.ptr 10900 s.vc 0 0)), (5, .c (.row 10 s.v1 0 s.a.length)), (6, .c (.row 11 s.v2 0 s.b.length)), (7, .c (I s.i))], o := dgO R s, n := s.n }
def dgE (R : List (List T)) (s : DgS) : St := { t := [(4, .c (.ptr 10900 s.vc 0 0)), (5, .c (.row 10 s.v1 0 s.a.length)), (6, .c (.row 11 s.v2 0 s.b.length)), (7, .c (I s.i)), (15, .c (.bool false))], o := dgO R s, n := s.n }
structure DgI (R : List (List T)) (vc : Nat) (s : DgS) : Prop where
  i : s.i ≤ 6
  a : s.a.length = s.i
  b : s.b.length = s.i
  c : s.ic ≤ R.length
  v : s.vc = vc
set_option maxHeartbeats 1000000 in
theorem spec_DrawJoinGone.says (h : spec_DrawJoinGone.k M) {R : List (List T)} (hR : Bytes R) :
    ∃ x y : List Int, x.length ≤ 6 ∧ y.length ≤ 6 ∧ run M 403 [.c (.sl false 1 R)] [] = some (.tup [.c (.sl true 1 (irow x)), .c (.sl true 1 (irow y))], []) := by
  obtain ⟨h0, k1, k2⟩ := h
  obtain ⟨q0, h1⟩ := spec_l01New.says k1 hR
  have e0 : ((0 : Nat) : Int) = 0 := rfl
  obtain ⟨r, hr, ⟨⟨i, a, b, v1, v2, vc, ic, q, n⟩, rfl, hI⟩⟩ := loop_ex (f := exC (run M) 8 spec_DrawJoinGone.l0) (dgS R) (DgI R 2000048) (fun s => 6 - s.i) (fun r => ∃ s', r = (.exit 0, dgE R s') ∧ DgI R 2000048 s')
    (fun s hs => by
      obtain ⟨i, a, b, v1, v2, vc, ic, q, n⟩ := s
      obtain ⟨hi, ha, hb, hc, hv⟩ := hs
      simp only at hi ha hb hc hv
      obtain ⟨x, i1, q1, hx, hc1, h2⟩ := spec_l01Below.says k2 hR ic q hc 6 (by omega) (by omega)
      simp only [curD, Int.cast_ofNat_Int] at h2
      by_cases c : i < x
      · left
        obtain ⟨y, i2, q2, hy, hc2, h3⟩ := spec_l01Below.says k2 hR i1 q1 hc1 9 (by omega) (by omega)
        obtain ⟨z, i3, q3, hz, hc3, h4⟩ := spec_l01Below.says k2 hR i2 q2 hc2 9 (by omega) (by omega)
        simp only [curD, Int.cast_ofNat_Int] at h3 h4
        have e3 : IntKind.i64.wrap ((i : Int) + 1) = (i : Int) + 1 := wrap_i64 (by omega) (by omega)
        have l1 := irow_length a
        have l2 := irow_length b
        have e4 : a.length + 1 ≤ 4294967296 := by omega
        have e5 : b.length + 1 ≤ 4294967296 := by omega
        have hh : ∃ v1' v2' n', exC (run M) 8 spec_DrawJoinGone.l0 (dgS R ⟨i, a, b, v1, v2, vc, ic, q, n⟩) = some (.normal, dgS R ⟨i + 1, a ++ [(y : Int)], b ++ [(z : Int)], v1', v2', vc, i3, q3, n'⟩) := by
          simp only [dgS, dgO, irow_snoc]
          generalize irow a = ra at *
          generalize irow b = rb at *
          simp (maxSteps := 1000000) [spec_DrawJoinGone.l0, List.range_succ, bs_get, setAt, h2, h3, h4, c, e3, e4, e5, l1, l2, List.take_of_length_le]
        obtain ⟨v1', v2', n', hh⟩ := hh
        exact ⟨_, hh, ⟨by simp only; omega, by simp [ha], by simp [hb], hc3, hv⟩, by simp only; omega⟩
      · right
        have hh : ∃ n', exC (run M) 8 spec_DrawJoinGone.l0 (dgS R ⟨i, a, b, v1, v2, vc, ic, q, n⟩) = some (.exit 0, dgE R ⟨i, a, b, v1, v2, vc, i1, q1, n'⟩) := by
          simp only [dgS, dgE, dgO]
          generalize irow a = ra at *
          generalize irow b = rb at *
          simp (maxSteps := 1000000) [spec_DrawJoinGone.l0, List.range_succ, bs_get, setAt, h2, c]
        obtain ⟨n', hh⟩ := hh
        exact ⟨_, hh, by simp, _, rfl, ⟨hi, ha, hb, hc1, hv⟩⟩) 8 ⟨0, [], [], 2000080, 2000112, 2000048, 0, q0, 2000160⟩ ⟨by simp, rfl, rfl, by simp, rfl⟩ (by simp)
  obtain ⟨hi, ha, hb, hc, hv⟩ := hI
  simp only at hi ha hb hc hv
  refine ⟨a, b, by omega, by omega, run_code (b := spec_DrawJoinGone.m) h0 ⟨8, ?_⟩⟩
  have l1 := irow_length a
  have l2 := irow_length b
  simp only [dgS, dgE, dgO, e0, irow_nil, List.length_nil] at hr
  generalize irow a = ra at *
  generalize irow b = rb at *
  simp (maxSteps := 1000000) [exB, spec_DrawJoinGone.m, spec_DrawJoinGone.b, List.range_succ, bs_get, setAt, h1, hr, l1, l2, List.take_of_length_le]
end Mx

namespace Mx
open Go
variable {M : Nat → Option Body}
theorem spec_l08Next.says (h : spec_l08Next.k M) (a b : Box) : run M 459 [.a (encBox a), .a (encBox b)] [] = some (.c (I (Max.max a.next b.next)), []) := by
  refine run_code (b := spec_l08Next.m) h ⟨0, ?_⟩
  have e : Max.max a.next b.next = if b.next < a.next then a.next else b.next := by split <;> omega
  rw [e]
  simp only [encBox, mails, ints]
  by_cases c : b.next < a.next
  · simp (maxSteps := 1000000) [exB, spec_l08Next.m, spec_l08Next.b, List.range_succ, bs_get, setAt, c]
  · simp (maxSteps := 1000000) [exB, spec_l08Next.m, spec_l08Next.b, List.range_succ, bs_get, setAt, c]
theorem mfilter_fold (p : Mail → Bool) : ∀ (l s : List Mail), l.foldl (fun s a => if p a = true then s ++ [a] else s) s = s ++ l.filter p
  | [], s => by simp
  | a :: l, s => by
    rw [List.foldl_cons, mfilter_fold p l, List.filter_cons]
    by_cases h : p a = true <;> simp [h]
def lpS (l : List Mail) (m : Mail) (i : Nat) (s : List Mail) (x : Nat × Nat) : St := { t := [(0, .c (mails l)), (3, .c (.ptr 3 2000000 0 0)), (5, .c (.row 8 x.1 0 s.length)), (6, .c (I i))], o := [(3, ⟨2000000, 4, true, true, [encMail m]⟩), (8, ⟨x.1, 4, true, false, s.map encMail⟩)], n := x.2 }
def lpE (l : List Mail) (m : Mail) (s : List Mail) (x : Nat × Nat) : St := { t := [(0, .c (mails l)), (3, .c (.ptr 3 2000000 0 0)), (5, .c (.row 8 x.1 0 s.length)), (6, .c (I l.length)), (12, .c (.bool false))], o := [(3, ⟨2000000, 4, true, true, [encMail m]⟩), (8, ⟨x.1, 4, true, false, s.map encMail⟩)], n := x.2 }
def lqS (l : List Mail) (m : Mail) (i : Nat) (s : List Mail) (x : Nat × Nat) : St := { t := [(0, .c (mails l)), (3, .c (.ptr 3 2000000 0 0)), (5, .c (.row 8 x.1 0 s.length)), (7, .c (I i))], o := [(3, ⟨2000000, 4, true, true, [encMail m]⟩), (8, ⟨x.1, 4, true, false, s.map encMail⟩)], n := x.2 }
def lqE (l : List Mail) (m : Mail) (s : List Mail) (x : Nat × Nat) : St := { t := [(0, .c (mails l)), (3, .c (.ptr 3 2000000 0 0)), (5, .c (.row 8 x.1 0 s.length)), (7, .c (I l.length)), (37, .c (.bool false))], o := [(3, ⟨2000000, 4, true, true, [encMail m]⟩), (8, ⟨x.1, 4, true, false, s.map encMail⟩)], n := x.2 }
set_option maxHeartbeats 2000000 in
theorem spec_l08Put.says (h : spec_l08Put.k M) (l : List Mail) (m : Mail) (hl : l.length ≤ 16777216) : run M 462 [.c (mails l), .a (encMail m)] [] = some (.c (.sl true 4 ((insBy (·.uid) l m).map encMail)), []) := by
  refine run_code (b := spec_l08Put.m) h ⟨l.length + 1, ?_⟩
  have hrow : (l.map encMail).length = l.length := by simp
  have hat : ∀ i (hi : i < l.length) hh, (l.map encMail)[i]'hh = encMail l[i] := by intro i hi hh; simp
  obtain ⟨g, hr⟩ := fold_loop (f := exC (run M) (l.length + 1) spec_l08Put.l0) l (fun s a => if decide (a.uid ≤ m.uid) = true then s ++ [a] else s) (fun i s => s.length ≤ i) (lpS l m) 0 (lpE l m)
    (fun i h s hs => by split <;> (try simp) <;> omega)
    (fun i hi s x hs => by
      obtain ⟨v, n⟩ := x
      have e5 : IntKind.i64.wrap ((i : Int) + 1) = (i : Int) + 1 := wrap_i64 (by omega) (by omega)
      have e6 : s.length + 1 ≤ 4294967296 := by omega
      have e9 : (s.map encMail).length = s.length := by simp
      have a1 := hat i hi
      simp only [Prod.exists]
      by_cases c : l[i].uid ≤ m.uid
      · simp only [c, decide_true, if_true, lpS, List.map_append, List.map_cons, List.map_nil, List.length_append, List.length_singleton]
        simp only [mails, encMail, regs] at a1 ⊢
        generalize s.map encMail = rr at *
        generalize l.map encMail = rl at *
        generalize l[i].flags.map encReg = rf at *
        simp (maxSteps := 1000000) [spec_l08Put.l0, List.range_succ, bs_get, setAt, hi, hrow, a1, c, e5, e6, e9, List.take_of_length_le]
      · simp only [c, decide_false, Bool.false_eq_true, if_false, lpS]
        simp only [mails, encMail, regs] at a1 ⊢
        generalize s.map encMail = rr at *
        generalize l.map encMail = rl at *
        generalize l[i].flags.map encReg = rf at *
        simp (maxSteps := 1000000) [spec_l08Put.l0, List.range_succ, bs_get, setAt, hi, hrow, a1, c, e5])
    (fun s x hs => by
      obtain ⟨v, n⟩ := x
      simp only [Prod.exists, lpS, lpE, mails]
      generalize l.map encMail = rl at *
      simp (maxSteps := 1000000) [spec_l08Put.l0, List.range_succ, bs_get, setAt, hrow]) [] (by simp)
  obtain ⟨g', hr'⟩ := fold_loop (f := exC (run M) (l.length + 1) spec_l08Put.l1) l (fun s a => if decide (m.uid < a.uid) = true then s ++ [a] else s) (fun i s => s.length ≤ l.length + 1 + i) (lqS l m) 2 (lqE l m)
    (fun i h s hs => by split <;> (try simp) <;> omega)
    (fun i hi s x hs => by
      obtain ⟨v, n⟩ := x
      have e5 : IntKind.i64.wrap ((i : Int) + 1) = (i : Int) + 1 := wrap_i64 (by omega) (by omega)
      have e6 : s.length + 1 ≤ 4294967296 := by omega
      have e9 : (s.map encMail).length = s.length := by simp
      have a1 := hat i hi
      simp only [Prod.exists]
      by_cases c : m.uid < l[i].uid
      · simp only [c, decide_true, if_true, lqS, List.map_append, List.map_cons, List.map_nil, List.length_append, List.length_singleton]
        simp only [mails, encMail, regs] at a1 ⊢
        generalize s.map encMail = rr at *
        generalize l.map encMail = rl at *
        generalize l[i].flags.map encReg = rf at *
        simp (maxSteps := 1000000) [spec_l08Put.l1, List.range_succ, bs_get, setAt, hi, hrow, a1, c, e5, e6, e9, List.take_of_length_le]
      · simp only [c, decide_false, Bool.false_eq_true, if_false, lqS]
        simp only [mails, encMail, regs] at a1 ⊢
        generalize s.map encMail = rr at *
        generalize l.map encMail = rl at *
        generalize l[i].flags.map encReg = rf at *
        simp (maxSteps := 1000000) [spec_l08Put.l1, List.range_succ, bs_get, setAt, hi, hrow, a1, c, e5])
    (fun s x hs => by
      obtain ⟨v, n⟩ := x
      simp only [Prod.exists, lqS, lqE, mails]
      generalize l.map encMail = rl at *
      simp (maxSteps := 1000000) [spec_l08Put.l1, List.range_succ, bs_get, setAt, hrow]) (l.filter (fun y => decide (y.uid ≤ m.uid)) ++ [m]) (by have := List.length_filter_le (fun y : Mail => decide (y.uid ≤ m.uid)) l; simp; omega)
  rw [mfilter_fold] at hr hr'
  have hr0 := hr (2000032, 2000080)
  generalize g (2000032, 2000080) = y at *
  obtain ⟨v1, n1⟩ := y
  have hr1 := hr' (n1 + 48, n1 + 96)
  generalize g' (n1 + 48, n1 + 96) = y at *
  obtain ⟨v2, n2⟩ := y
  have e1 : (l.filter (fun y => decide (y.uid ≤ m.uid))).length ≤ 16777216 := Nat.le_trans (List.length_filter_le _ _) hl
  have e2 : (l.filter (fun y => decide (m.uid < y.uid))).length ≤ 16777216 := Nat.le_trans (List.length_filter_le _ _) hl
  simp only [lpS, lpE, lqS, lqE, List.nil_append, List.map_append, List.map_cons, List.map_nil, List.length_append, List.length_singleton, List.length_nil] at hr0 hr1
  have e3 : ((l.filter (fun y => decide (y.uid ≤ m.uid))).map encMail).length = (l.filter (fun y => decide (y.uid ≤ m.uid))).length := by simp
  have e4 : ((l.filter (fun y => decide (m.uid < y.uid))).map encMail).length = (l.filter (fun y => decide (m.uid < y.uid))).length := by simp
  have ez : ((0 : Nat) : Int) = 0 := rfl
  simp only [ez] at hr0 hr1
  simp only [insBy, List.map_append, List.map_cons, List.map_nil]
  simp only [mails, encMail, regs] at *
  generalize (l.filter (fun y => decide (y.uid ≤ m.uid))).map encMail = r1 at *
  generalize (l.filter (fun y => decide (m.uid < y.uid))).map encMail = r2 at *
  generalize (l.filter (fun y => decide (y.uid ≤ m.uid))).length = k1 at *
  generalize (l.filter (fun y => decide (m.uid < y.uid))).length = k2 at *
  generalize l.map encMail = rl at *
  generalize m.flags.map encReg = rf at *
  have e5 : k1 + 1 ≤ 4294967296 := by omega
  have e6 : (r1 ++ ([I m.gid, I m.uid, T.sl false 3 rf, S m.text] :: r2)).take (k1 + 1 + k2) = r1 ++ ([I m.gid, I m.uid, T.sl false 3 rf, S m.text] :: r2) := List.take_of_length_le (by simp; omega)
  have e7 : k1 + 1 + k2 ≤ k1 + (k2 + 1) := by omega
  simp (maxSteps := 1000000) [exB, spec_l08Put.m, spec_l08Put.b, List.range_succ, bs_get, setAt, e7, hr0, hr1, e3, e4, e5, e6, List.take_of_length_le]
def gcS (u2 u3 : Nat) (a b : Box) (i : Nat) (s : List Int) (x : Nat × Nat) : St := { t := [(2, .c (.ptr 2 u2 0 0)), (3, .c (.ptr 3 u3 0 0)), (5, .c (.row 8 x.1 0 s.length)), (6, .c (I i))], o := [(2, ⟨u2, 7, true, true, [encBox a]⟩), (3, ⟨u3, 7, true, true, [encBox b]⟩), (8, ⟨x.1, 1, true, false, irow s⟩)], n := x.2 }
def gcE (u2 u3 : Nat) (a b : Box) (s : List Int) (x : Nat × Nat) : St := { t := [(2, .c (.ptr 2 u2 0 0)), (3, .c (.ptr 3 u3 0 0)), (5, .c (.row 8 x.1 0 s.length)), (6, .c (I a.mails.length)), (13, .c (.bool false))], o := [(2, ⟨u2, 7, true, true, [encBox a]⟩), (3, ⟨u3, 7, true, true, [encBox b]⟩), (8, ⟨x.1, 1, true, false, irow s⟩)], n := x.2 }
def gdS (u3 : Nat) (b : Box) (i : Nat) (s : List Int) (x : Nat × Nat) : St := { t := [(3, .c (.ptr 3 u3 0 0)), (5, .c (.row 8 x.1 0 s.length)), (7, .c (I i))], o := [(3, ⟨u3, 7, true, true, [encBox b]⟩), (8, ⟨x.1, 1, true, false, irow s⟩)], n := x.2 }
def gdE (u3 : Nat) (b : Box) (s : List Int) (x : Nat × Nat) : St := { t := [(3, .c (.ptr 3 u3 0 0)), (5, .c (.row 8 x.1 0 s.length)), (7, .c (I b.mails.length)), (37, .c (.bool false))], o := [(3, ⟨u3, 7, true, true, [encBox b]⟩), (8, ⟨x.1, 1, true, false, irow s⟩)], n := x.2 }
theorem gadd_le (s : List Int) (x : Int) : (gadd s x).length ≤ s.length + 1 := by
  unfold gadd
  split
  · omega
  · exact gput_le s x
theorem gids_fold (l : List Mail) (s : List Int) : l.foldl (fun s m => gadd s m.gid) s = (gids l).foldl gadd s := by
  simp only [gids, List.foldl_map]
set_option maxHeartbeats 2000000 in
theorem spec_l08Gids.says (h : spec_l08Gids.k M) (a b : Box) (ha : a.mails.length ≤ 1048576) (hb : b.mails.length ≤ 1048576) : run M 460 [.a (encBox a), .a (encBox b)] [] = some (.c (.sl true 1 (irow (joinGone (gids a.mails) (gids b.mails)))), []) := by
  obtain ⟨h0, kin, kput⟩ := h
  refine run_code (b := spec_l08Gids.m) h0 ⟨a.mails.length + b.mails.length + 1, ?_⟩
  generalize hK : a.mails.length + b.mails.length + 1 = K
  have hra : (a.mails.map encMail).length = a.mails.length := by simp
  have hrb : (b.mails.map encMail).length = b.mails.length := by simp
  obtain ⟨g, hr⟩ := fold_loop (f := exC (run M) K spec_l08Gids.l0) a.mails (fun s m => gadd s m.gid) (fun i s => s.length ≤ i) (gcS 2000000 2000016 a b) 0 (gcE 2000000 2000016 a b)
    (fun i h s hs => by have := gadd_le s a.mails[i].gid; omega)
    (fun i hi s x hs => by
      obtain ⟨v, n⟩ := x
      have e5 : IntKind.i64.wrap ((i : Int) + 1) = (i : Int) + 1 := wrap_i64 (by omega) (by omega)
      have e9 := irow_length s
      have h1 := spec_l06In.says kin s a.mails[i].gid (by omega)
      have h2 := spec_l06Put.says kput s a.mails[i].gid (by omega)
      have a1 : ∀ hh, (a.mails.map encMail)[i]'hh = encMail a.mails[i] := by intro hh; simp
      have e10 := irow_length (gput s a.mails[i].gid)
      have hfl := irow_scalar (gput s a.mails[i].gid)
      simp only [Prod.exists, gadd]
      by_cases c : a.mails[i].gid ∈ s
      · rw [decide_eq_true c] at h1
        rw [if_pos c]
        simp only [gcS]
        simp only [encBox, mails, ints, encMail, regs] at a1 h1 ⊢
        generalize irow s = rs at *
        generalize a.mails.map encMail = ra at *
        generalize b.mails.map encMail = rb at *
        simp (maxSteps := 1000000) [spec_l08Gids.l0, List.range_succ, bs_get, setAt, hra, hi, h1, a1, e5, e9, List.take_of_length_le]
      · rw [decide_eq_false c] at h1
        rw [if_neg c]
        simp only [gcS]
        simp only [encBox, mails, ints, encMail, regs] at a1 h1 h2 ⊢
        generalize irow (gput s a.mails[i].gid) = rp at *
        generalize irow s = rs at *
        generalize a.mails.map encMail = ra at *
        generalize b.mails.map encMail = rb at *
        simp (maxSteps := 1000000) [spec_l08Gids.l0, List.range_succ, bs_get, setAt, hra, hi, h1, h2, a1, e5, e9, e10, hfl, List.take_of_length_le])
    (fun s x hs => by
      obtain ⟨v, n⟩ := x
      simp only [Prod.exists, gcS, gcE, encBox, mails, ints]
      generalize a.mails.map encMail = ra at *
      generalize b.mails.map encMail = rb at *
      simp (maxSteps := 1000000) [spec_l08Gids.l0, List.range_succ, bs_get, setAt, hra]) [] (by simp)
  obtain ⟨g', hr'⟩ := fold_loop (f := exC (run M) K spec_l08Gids.l1) b.mails (fun s m => gadd s m.gid) (fun i s => s.length ≤ a.mails.length + i) (gdS 2000016 b) 2 (gdE 2000016 b)
    (fun i h s hs => by have := gadd_le s b.mails[i].gid; omega)
    (fun i hi s x hs => by
      obtain ⟨v, n⟩ := x
      have e5 : IntKind.i64.wrap ((i : Int) + 1) = (i : Int) + 1 := wrap_i64 (by omega) (by omega)
      have e9 := irow_length s
      have h1 := spec_l06In.says kin s b.mails[i].gid (by omega)
      have h2 := spec_l06Put.says kput s b.mails[i].gid (by omega)
      have a1 : ∀ hh, (b.mails.map encMail)[i]'hh = encMail b.mails[i] := by intro hh; simp
      have e10 := irow_length (gput s b.mails[i].gid)
      have hfl := irow_scalar (gput s b.mails[i].gid)
      simp only [Prod.exists, gadd]
      by_cases c : b.mails[i].gid ∈ s
      · rw [decide_eq_true c] at h1
        rw [if_pos c]
        simp only [gdS]
        simp only [encBox, mails, ints, encMail, regs] at a1 h1 ⊢
        generalize irow s = rs at *
        generalize b.mails.map encMail = rb at *
        simp (maxSteps := 1000000) [spec_l08Gids.l1, List.range_succ, bs_get, setAt, hrb, hi, h1, a1, e5, e9, List.take_of_length_le]
      · rw [decide_eq_false c] at h1
        rw [if_neg c]
        simp only [gdS]
        simp only [encBox, mails, ints, encMail, regs] at a1 h1 h2 ⊢
        generalize irow (gput s b.mails[i].gid) = rp at *
        generalize irow s = rs at *
        generalize b.mails.map encMail = rb at *
        simp (maxSteps := 1000000) [spec_l08Gids.l1, List.range_succ, bs_get, setAt, hrb, hi, h1, h2, a1, e5, e9, e10, hfl, List.take_of_length_le])
    (fun s x hs => by
      obtain ⟨v, n⟩ := x
      simp only [Prod.exists, gdS, gdE, encBox, mails, ints]
      generalize b.mails.map encMail = rb at *
      simp (maxSteps := 1000000) [spec_l08Gids.l1, List.range_succ, bs_get, setAt, hrb]) (a.mails.foldl (fun s m => gadd s m.gid) []) (by
        have := foldl_inv a.mails (fun s m => gadd s m.gid) (fun i s => s.length ≤ i) (fun i h s hs => by have := gadd_le s a.mails[i].gid; omega) [] (by simp)
        omega)
  have hj : joinGone (gids a.mails) (gids b.mails) = b.mails.foldl (fun s m => gadd s m.gid) (a.mails.foldl (fun s m => gadd s m.gid) []) := by
    rw [gids_fold, gids_fold, joinGone, List.foldl_append]
  rw [hj]
  clear hj
  have hr0 := loopN_le (hr (2000048, 2000096)) (show a.mails.length + 1 ≤ K by omega)
  generalize g (2000048, 2000096) = y at *
  obtain ⟨v1, n1⟩ := y
  have hr1 := loopN_le (hr' (v1, n1 + 16)) (show b.mails.length + 1 ≤ K by omega)
  generalize g' (v1, n1 + 16) = y at *
  obtain ⟨v2, n2⟩ := y
  generalize hs1 : a.mails.foldl (fun s m => gadd s m.gid) [] = s1 at *
  generalize hs2 : b.mails.foldl (fun s m => gadd s m.gid) s1 = s2 at *
  have ez : ((0 : Nat) : Int) = 0 := rfl
  have e10 := irow_length s2
  simp only [gcS, gcE, gdS, gdE, ez, List.length_nil, irow_nil] at hr0 hr1
  simp only [encBox, mails, ints] at *
  generalize irow s1 = r1 at *
  generalize irow s2 = r2 at *
  generalize a.mails.map encMail = ra at *
  generalize b.mails.map encMail = rb at *
  simp (maxSteps := 1000000) [exB, spec_l08Gids.m, spec_l08Gids.b, List.range_succ, bs_get, setAt, hr0, hr1, e10, List.take_of_length_le]
end Mx

namespace Mx
open Go
variable {M : Nat → Option Body}
def sjO (u2 u3 : Nat) (a b : Box) (v : Nat) (L : List Mail) : List (Nat × Ob) := [(2, ⟨u2, 7, true, true, [encBox a]⟩), (3, ⟨u3, 7, true, true, [encBox b]⟩), (17, ⟨v, 4, true, false, L.map encMail⟩)]
def sjS (u2 u3 : Nat) (a b : Box) (G : List Int) (i : Nat) (s : List Mail × Int) (x : Nat × Nat) : St := { t := [(2, .c (.ptr 2 u2 0 0)), (3, .c (.ptr 3 u3 0 0)), (6, .c (I s.2)), (7, .c (.row 17 x.1 0 s.1.length)), (8, .c (ints G)), (9, .c (I i))], o := sjO u2 u3 a b x.1 s.1, n := x.2 }
def sjE (u2 u3 : Nat) (a b : Box) (G : List Int) (s : List Mail × Int) (x : Nat × Nat) : St := { t := [(2, .c (.ptr 2 u2 0 0)), (3, .c (.ptr 3 u3 0 0)), (6, .c (I s.2)), (7, .c (.row 17 x.1 0 s.1.length)), (8, .c (ints G)), (9, .c (I G.length)), (24, .c (.bool false))], o := sjO u2 u3 a b x.1 s.1, n := x.2 }
structure SjK (M : Nat → Option Body) : Prop where
  keeps : spec_KeepsUid.k M
  at_ : spec_MailAt.k M
  inn : spec_l06In.k M
  copy : spec_l05Copy.k M
  join : spec_JoinMail.k M
  put : spec_l08Put.k M
theorem holds_of {a : Box} {g : Int} : holds a g = (mailO a.mails g).isSome := by
  unfold holds
  cases mailO a.mails g with
  | none => rfl
  | some k => exact decide_eq_true (Int.natCast_nonneg k)
/-- one that is gone -/
theorem sj_gone (K : SjK M) (k u2 u3 : Nat) (a b : Box) (ha : BoxIn a) (hb : BoxIn b) (G : List Int) (hG : G.length ≤ 4194304) (i : Nat) (hi : i < G.length) (s : List Mail × Int) (x : Nat × Nat) (c : G[i] ∈ a.gone ∨ G[i] ∈ b.gone) :
    ∃ y, exC (run M) k spec_l08Join.l0 (sjS u2 u3 a b G i s x) = some (.normal, sjS u2 u3 a b G (i + 1) s y) := by
  obtain ⟨v, n⟩ := x
  obtain ⟨L, nx⟩ := s
  have h1 := spec_l06In.says K.inn a.gone G[i] (by have := ha.g; omega)
  have h2 := spec_l06In.says K.inn b.gone G[i] (by have := hb.g; omega)
  have e5 : IntKind.i64.wrap ((i : Int) + 1) = (i : Int) + 1 := wrap_i64 (by omega) (by omega)
  have eg := irow_length G
  have a0 : ∀ hh, (irow G)[i]'hh = [I G[i]] := by intro hh; simp [irow]
  have hcd : G[i] ∈ a.gone ∨ ¬ G[i] ∈ a.gone ∧ G[i] ∈ b.gone := by
    by_cases q : G[i] ∈ a.gone
    · exact .inl q
    · exact .inr ⟨q, c.resolve_left q⟩
  simp only [Prod.exists, sjS, sjO]
  rcases hcd with q | ⟨q1, q2⟩
  · rw [decide_eq_true q] at h1
    simp only [encBox, mails, ints] at *
    generalize irow G = rg at *
    generalize irow a.gone = ga at *
    generalize irow b.gone = gb at *
    generalize a.mails.map encMail = ra at *
    generalize b.mails.map encMail = rb at *
    generalize L.map encMail = rl at *
    simp (maxSteps := 1000000) [spec_l08Join.l0, List.range_succ, bs_get, setAt, hi, h1, e5, eg, a0, List.take_of_length_le]
  · rw [decide_eq_false q1] at h1
    rw [decide_eq_true q2] at h2
    simp only [encBox, mails, ints] at *
    generalize irow G = rg at *
    generalize irow a.gone = ga at *
    generalize irow b.gone = gb at *
    generalize a.mails.map encMail = ra at *
    generalize b.mails.map encMail = rb at *
    generalize L.map encMail = rl at *
    simp (maxSteps := 1000000) [spec_l08Join.l0, List.range_succ, bs_get, setAt, hi, h1, h2, e5, eg, a0, List.take_of_length_le]
theorem sj_end (k u2 u3 : Nat) (a b : Box) (G : List Int) (s : List Mail × Int) (x : Nat × Nat) :
    ∃ y, exC (run M) k spec_l08Join.l0 (sjS u2 u3 a b G G.length s x) = some (.exit 0, sjE u2 u3 a b G s y) := by
  obtain ⟨v, n⟩ := x
  obtain ⟨L, nx⟩ := s
  have eg := irow_length G
  simp only [Prod.exists, sjS, sjE, sjO]
  simp only [encBox, mails, ints] at *
  generalize irow G = rg at *
  generalize irow a.gone = ga at *
  generalize irow b.gone = gb at *
  generalize a.mails.map encMail = ra at *
  generalize b.mails.map encMail = rb at *
  generalize L.map encMail = rl at *
  simp (maxSteps := 1000000) [spec_l08Join.l0, List.range_succ, bs_get, setAt, eg]
set_option maxHeartbeats 8000000 in
/-- one that both have -/
theorem sj_both (K : SjK M) (k u2 u3 : Nat) (a b : Box) (ha : BoxIn a) (hb : BoxIn b) (G : List Int) (hG : G.length ≤ 4194304) (i : Nat) (hi : i < G.length) (s : List Mail × Int) (hs : s.1.length ≤ 16777216) (hx : -1000000000 ≤ s.2 ∧ s.2 ≤ 1000000000000) (x : Nat × Nat) (c1 : ¬ G[i] ∈ a.gone) (c2 : ¬ G[i] ∈ b.gone)
    (p q : Nat) (hp : mailO a.mails G[i] = some p) (hq : mailO b.mails G[i] = some q) :
    ∃ y, exC (run M) k spec_l08Join.l0 (sjS u2 u3 a b G i s x) = some (.normal, sjS u2 u3 a b G (i + 1) (stepJ a b s G[i]) y) := by
  obtain ⟨v, n⟩ := x
  obtain ⟨L, nx⟩ := s
  simp only at hs hx
  have h1 := spec_l06In.says K.inn a.gone G[i] (by have := ha.g; omega)
  have h2 := spec_l06In.says K.inn b.gone G[i] (by have := hb.g; omega)
  rw [decide_eq_false c1] at h1
  rw [decide_eq_false c2] at h2
  have h3 := spec_MailAt.says K.at_ a G[i] ha.m
  have h4 := spec_MailAt.says K.at_ b G[i] hb.m
  rw [hp] at h3
  rw [hq] at h4
  obtain ⟨hp1, hp2⟩ := mailO_in_some hp
  obtain ⟨hq1, hq2⟩ := mailO_in_some hq
  have h5 := spec_JoinMail.says K.join a.mails[p] b.mails[q] (ha.f _ (List.getElem_mem hp1)) (hb.f _ (List.getElem_mem hq1))
  have h6 := spec_KeepsUid.says K.keeps a b G[i] ha.m hb.m
  have h7 := spec_KeepsUid.says K.keeps b a G[i] hb.m ha.m
  have h8 := spec_l08Put.says K.put L (joinMail a.mails[p] b.mails[q]) hs
  have h9 := spec_l08Put.says K.put L { joinMail a.mails[p] b.mails[q] with uid := nx } hs
  have e5 : IntKind.i64.wrap ((i : Int) + 1) = (i : Int) + 1 := wrap_i64 (by omega) (by omega)
  have e6 : IntKind.i64.wrap (nx + 1) = nx + 1 := wrap_i64 (by omega) (by omega)
  have eg := irow_length G
  have a0 : ∀ hh, (irow G)[i]'hh = [I G[i]] := by intro hh; simp [irow]
  have a1 : ∀ hh, (a.mails.map encMail)[p]'hh = encMail a.mails[p] := by intro hh; simp
  have a2 : ∀ hh, (b.mails.map encMail)[q]'hh = encMail b.mails[q] := by intro hh; simp
  have el : (L.map encMail).length = L.length := by simp
  have eA : (a.mails.map encMail).length = a.mails.length := by simp
  have eB : (b.mails.map encMail).length = b.mails.length := by simp
  have l8 : ((insBy (fun m : Mail => m.uid) L (joinMail a.mails[p] b.mails[q])).map encMail).length = (insBy (fun m : Mail => m.uid) L (joinMail a.mails[p] b.mails[q])).length := by simp
  have l9 : ((insBy (fun m : Mail => m.uid) L { joinMail a.mails[p] b.mails[q] with uid := nx }).map encMail).length = (insBy (fun m : Mail => m.uid) L { joinMail a.mails[p] b.mails[q] with uid := nx }).length := by simp
  have hst : stepJ a b (L, nx) G[i] = if (!keepsUid a b G[i] || !keepsUid b a G[i]) = true then (insBy (fun m : Mail => m.uid) L { joinMail a.mails[p] b.mails[q] with uid := nx }, nx + 1) else (insBy (fun m : Mail => m.uid) L (joinMail a.mails[p] b.mails[q]), nx) := by
    have e1 : needs a b G[i] = (!keepsUid a b G[i] || !keepsUid b a G[i]) := by simp [needs, holds_of, hp, hq]
    have e2 : joinM a.mails b.mails G[i] = joinMail a.mails[p] b.mails[q] := by simp [joinM, hp2, hq2]
    simp only [stepJ]
    rw [if_neg (by simp [c1, c2]), e1, e2]
  rw [hst]
  clear hst hp hq hp2 hq2 c1 c2
  simp only [Prod.exists, sjS, sjO]
  simp only [encBox, mails, ints, intO, encMail, encMailO, regs] at *
  generalize keepsUid a b G[i] = w1 at *
  generalize keepsUid b a G[i] = w2 at *
  generalize joinMail a.mails[p] b.mails[q] = m at *
  generalize insBy (fun m : Mail => m.uid) L { m with uid := nx } = L9 at *
  generalize insBy (fun m : Mail => m.uid) L m = L8 at *
  generalize a.mails[p] = ma at *
  generalize b.mails[q] = mb at *
  generalize G[i] = g at *
  generalize irow G = rg at *
  generalize irow a.gone = ga at *
  generalize irow b.gone = gb at *
  generalize a.mails.map encMail = ra at *
  generalize b.mails.map encMail = rb at *
  generalize L.map encMail = rl at *
  generalize m.flags.map encReg = rm at *
  generalize ma.flags.map encReg = rma at *
  generalize mb.flags.map encReg = rmb at *
  cases w1 <;> cases w2 <;> simp (maxSteps := 1000000) [spec_l08Join.l0, List.range_succ, bs_get, setAt, hi, hp1, hq1, h1, h2, h3, h4, h5, h6, h7, h8, h9, e5, e6, eg, a0, a1, a2, el, eA, eB, l8, l9, List.take_of_length_le]
set_option maxHeartbeats 8000000 in
/-- one that the first has -/
theorem sj_a (K : SjK M) (k u2 u3 : Nat) (a b : Box) (ha : BoxIn a) (hb : BoxIn b) (G : List Int) (hG : G.length ≤ 4194304) (i : Nat) (hi : i < G.length) (s : List Mail × Int) (hs : s.1.length ≤ 16777216) (hx : -1000000000 ≤ s.2 ∧ s.2 ≤ 1000000000000) (x : Nat × Nat) (c1 : ¬ G[i] ∈ a.gone) (c2 : ¬ G[i] ∈ b.gone)
    (p : Nat) (hp : mailO a.mails G[i] = some p) (hq : mailO b.mails G[i] = none) :
    ∃ y, exC (run M) k spec_l08Join.l0 (sjS u2 u3 a b G i s x) = some (.normal, sjS u2 u3 a b G (i + 1) (stepJ a b s G[i]) y) := by
  obtain ⟨v, n⟩ := x
  obtain ⟨L, nx⟩ := s
  simp only at hs hx
  have h1 := spec_l06In.says K.inn a.gone G[i] (by have := ha.g; omega)
  have h2 := spec_l06In.says K.inn b.gone G[i] (by have := hb.g; omega)
  rw [decide_eq_false c1] at h1
  rw [decide_eq_false c2] at h2
  have h3 := spec_MailAt.says K.at_ a G[i] ha.m
  have h4 := spec_MailAt.says K.at_ b G[i] hb.m
  rw [hp] at h3
  rw [hq] at h4
  obtain ⟨hp1, hp2⟩ := mailO_in_some hp
  have hq2 := mailO_in_none.1 hq
  have h5 := spec_l05Copy.says K.copy a.mails[p] (ha.f _ (List.getElem_mem hp1))
  have h6 := spec_KeepsUid.says K.keeps a b G[i] ha.m hb.m
  have h8 := spec_l08Put.says K.put L a.mails[p] hs
  have h9 := spec_l08Put.says K.put L { a.mails[p] with uid := nx } hs
  have e5 : IntKind.i64.wrap ((i : Int) + 1) = (i : Int) + 1 := wrap_i64 (by omega) (by omega)
  have e6 : IntKind.i64.wrap (nx + 1) = nx + 1 := wrap_i64 (by omega) (by omega)
  have eg := irow_length G
  have a0 : ∀ hh, (irow G)[i]'hh = [I G[i]] := by intro hh; simp [irow]
  have a1 : ∀ hh, (a.mails.map encMail)[p]'hh = encMail a.mails[p] := by intro hh; simp
  have el : (L.map encMail).length = L.length := by simp
  have eA : (a.mails.map encMail).length = a.mails.length := by simp
  have eB : (b.mails.map encMail).length = b.mails.length := by simp
  have l8 : ((insBy (fun m : Mail => m.uid) L a.mails[p]).map encMail).length = (insBy (fun m : Mail => m.uid) L a.mails[p]).length := by simp
  have l9 : ((insBy (fun m : Mail => m.uid) L { a.mails[p] with uid := nx }).map encMail).length = (insBy (fun m : Mail => m.uid) L { a.mails[p] with uid := nx }).length := by simp
  have hst : stepJ a b (L, nx) G[i] = if (!keepsUid a b G[i]) = true then (insBy (fun m : Mail => m.uid) L { a.mails[p] with uid := nx }, nx + 1) else (insBy (fun m : Mail => m.uid) L a.mails[p], nx) := by
    have e1 : needs a b G[i] = (!keepsUid a b G[i]) := by simp [needs, holds_of, hp, hq]
    have e2 : joinM a.mails b.mails G[i] = a.mails[p] := by simp [joinM, hp2, hq2]
    simp only [stepJ]
    rw [if_neg (by simp [c1, c2]), e1, e2]
  rw [hst]
  clear hst hp hq hp2 hq2 c1 c2
  simp only [Prod.exists, sjS, sjO]
  simp only [encBox, mails, ints, intO, encMail, encMailO, regs] at *
  generalize keepsUid a b G[i] = w1 at *
  generalize a.mails[p] = m at *
  generalize insBy (fun m : Mail => m.uid) L { m with uid := nx } = L9 at *
  generalize insBy (fun m : Mail => m.uid) L m = L8 at *
  generalize G[i] = g at *
  generalize irow G = rg at *
  generalize irow a.gone = ga at *
  generalize irow b.gone = gb at *
  generalize a.mails.map encMail = ra at *
  generalize b.mails.map encMail = rb at *
  generalize L.map encMail = rl at *
  generalize m.flags.map encReg = rm at *
  cases w1 <;> simp (maxSteps := 1000000) [spec_l08Join.l0, List.range_succ, bs_get, setAt, hi, hp1, h1, h2, h3, h4, h5, h6, h8, h9, e5, e6, eg, a0, a1, el, eA, eB, l8, l9, List.take_of_length_le]
set_option maxHeartbeats 8000000 in
/-- one that the second alone has -/
theorem sj_b (K : SjK M) (k u2 u3 : Nat) (a b : Box) (ha : BoxIn a) (hb : BoxIn b) (G : List Int) (hG : G.length ≤ 4194304) (i : Nat) (hi : i < G.length) (s : List Mail × Int) (hs : s.1.length ≤ 16777216) (hx : -1000000000 ≤ s.2 ∧ s.2 ≤ 1000000000000) (x : Nat × Nat) (c1 : ¬ G[i] ∈ a.gone) (c2 : ¬ G[i] ∈ b.gone)
    (q : Nat) (hp : mailO a.mails G[i] = none) (hq : mailO b.mails G[i] = some q) :
    ∃ y, exC (run M) k spec_l08Join.l0 (sjS u2 u3 a b G i s x) = some (.normal, sjS u2 u3 a b G (i + 1) (stepJ a b s G[i]) y) := by
  obtain ⟨v, n⟩ := x
  obtain ⟨L, nx⟩ := s
  simp only at hs hx
  have h1 := spec_l06In.says K.inn a.gone G[i] (by have := ha.g; omega)
  have h2 := spec_l06In.says K.inn b.gone G[i] (by have := hb.g; omega)
  rw [decide_eq_false c1] at h1
  rw [decide_eq_false c2] at h2
  have h3 := spec_MailAt.says K.at_ a G[i] ha.m
  have h4 := spec_MailAt.says K.at_ b G[i] hb.m
  rw [hp] at h3
  rw [hq] at h4
  have hp2 := mailO_in_none.1 hp
  obtain ⟨hq1, hq2⟩ := mailO_in_some hq
  have h5 := spec_l05Copy.says K.copy b.mails[q] (hb.f _ (List.getElem_mem hq1))
  have h7 := spec_KeepsUid.says K.keeps b a G[i] hb.m ha.m
  have h8 := spec_l08Put.says K.put L b.mails[q] hs
  have h9 := spec_l08Put.says K.put L { b.mails[q] with uid := nx } hs
  have e5 : IntKind.i64.wrap ((i : Int) + 1) = (i : Int) + 1 := wrap_i64 (by omega) (by omega)
  have e6 : IntKind.i64.wrap (nx + 1) = nx + 1 := wrap_i64 (by omega) (by omega)
  have eg := irow_length G
  have a0 : ∀ hh, (irow G)[i]'hh = [I G[i]] := by intro hh; simp [irow]
  have a2 : ∀ hh, (b.mails.map encMail)[q]'hh = encMail b.mails[q] := by intro hh; simp
  have el : (L.map encMail).length = L.length := by simp
  have eA : (a.mails.map encMail).length = a.mails.length := by simp
  have eB : (b.mails.map encMail).length = b.mails.length := by simp
  have l8 : ((insBy (fun m : Mail => m.uid) L b.mails[q]).map encMail).length = (insBy (fun m : Mail => m.uid) L b.mails[q]).length := by simp
  have l9 : ((insBy (fun m : Mail => m.uid) L { b.mails[q] with uid := nx }).map encMail).length = (insBy (fun m : Mail => m.uid) L { b.mails[q] with uid := nx }).length := by simp
  have hst : stepJ a b (L, nx) G[i] = if (!keepsUid b a G[i]) = true then (insBy (fun m : Mail => m.uid) L { b.mails[q] with uid := nx }, nx + 1) else (insBy (fun m : Mail => m.uid) L b.mails[q], nx) := by
    have e1 : needs a b G[i] = (!keepsUid b a G[i]) := by simp [needs, holds_of, hp, hq]
    have e2 : joinM a.mails b.mails G[i] = b.mails[q] := by simp [joinM, hp2, hq2]
    simp only [stepJ]
    rw [if_neg (by simp [c1, c2]), e1, e2]
  rw [hst]
  clear hst hp hq hp2 hq2 c1 c2
  simp only [Prod.exists, sjS, sjO]
  simp only [encBox, mails, ints, intO, encMail, encMailO, regs] at *
  generalize keepsUid b a G[i] = w2 at *
  generalize b.mails[q] = m at *
  generalize insBy (fun m : Mail => m.uid) L { m with uid := nx } = L9 at *
  generalize insBy (fun m : Mail => m.uid) L m = L8 at *
  generalize G[i] = g at *
  generalize irow G = rg at *
  generalize irow a.gone = ga at *
  generalize irow b.gone = gb at *
  generalize a.mails.map encMail = ra at *
  generalize b.mails.map encMail = rb at *
  generalize L.map encMail = rl at *
  generalize m.flags.map encReg = rm at *
  cases w2 <;> simp (maxSteps := 1000000) [spec_l08Join.l0, List.range_succ, bs_get, setAt, hi, hq1, h1, h2, h3, h4, h5, h7, h8, h9, e5, e6, eg, a0, a2, el, eA, eB, l8, l9, List.take_of_length_le]
theorem stepJ_len (a b : Box) (s : List Mail × Int) (g : Int) : (stepJ a b s g).1.length ≤ s.1.length + 1 ∧ s.2 ≤ (stepJ a b s g).2 ∧ (stepJ a b s g).2 ≤ s.2 + 1 := by
  have h : ∀ (L : List Mail) (m : Mail), (insBy (fun m : Mail => m.uid) L m).length = L.length + 1 := fun L m => by
    have := (insBy_perm (k := fun m : Mail => m.uid) L m).length_eq
    simpa using this
  unfold stepJ
  split
  · omega
  · split
    · simp only [h]; omega
    · simp only [h]; omega
set_option maxHeartbeats 1000000 in
theorem spec_l08Join.says (h : spec_l08Join.k M) (a b : Box) (ha : BoxIn a) (hb : BoxIn b) (hna : -1000000000 ≤ a.next ∧ a.next ≤ 1000000000) (hnb : -1000000000 ≤ b.next ∧ b.next ≤ 1000000000) :
    run M 439 [.a (encBox a), .a (encBox b)] [] = some (.tup [.c (.sl true 4 ((joinedS a b).1.map encMail)), .c (I (joinedS a b).2)], []) := by
  obtain ⟨h0, kk, ka, ki, kc, kn, kg, kj, kp⟩ := h
  have K : SjK M := ⟨kk, ka, ki, kc, kj, kp⟩
  have h1 := spec_l08Next.says kn a b
  have h2 := spec_l08Gids.says kg a b ha.m hb.m
  have hG : (joinGone (gids a.mails) (gids b.mails)).length ≤ 4194304 := by
    have := joinGone_le (gids a.mails) (gids b.mails)
    have e1 : (gids a.mails).length = a.mails.length := by simp [gids]
    have e2 : (gids b.mails).length = b.mails.length := by simp [gids]
    have := ha.m
    have := hb.m
    omega
  have hmem : ∀ g ∈ joinGone (gids a.mails) (gids b.mails), g ∈ gids a.mails ∨ g ∈ gids b.mails := fun g hg => (joinGone_mem _ _ _).1 hg
  have hJ : joinedS a b = (joinGone (gids a.mails) (gids b.mails)).foldl (stepJ a b) ([], Max.max a.next b.next) := rfl
  rw [hJ]
  have eg := irow_length (joinGone (gids a.mails) (gids b.mails))
  clear hJ
  generalize joinGone (gids a.mails) (gids b.mails) = G at *
  generalize hmx : Max.max a.next b.next = mx at *
  refine run_code (b := spec_l08Join.m) h0 ⟨G.length + 1, ?_⟩
  obtain ⟨g, hr⟩ := fold_loop (f := exC (run M) (G.length + 1) spec_l08Join.l0) G (stepJ a b) (fun i s => s.1.length ≤ i ∧ mx ≤ s.2 ∧ s.2 ≤ mx + i) (sjS 2000000 2000016 a b G) 0 (sjE 2000000 2000016 a b G)
    (fun i hi s hs => by have := stepJ_len a b s G[i]; omega)
    (fun i hi s x hs => by
      by_cases c1 : G[i] ∈ a.gone
      · have e : stepJ a b s G[i] = s := by unfold stepJ; rw [if_pos (.inl c1)]
        rw [e]
        exact sj_gone K _ _ _ a b ha hb G hG i hi s x (.inl c1)
      by_cases c2 : G[i] ∈ b.gone
      · have e : stepJ a b s G[i] = s := by unfold stepJ; rw [if_pos (.inr c2)]
        rw [e]
        exact sj_gone K _ _ _ a b ha hb G hG i hi s x (.inr c2)
      cases hp : mailO a.mails G[i] with
      | some p =>
        cases hq : mailO b.mails G[i] with
        | some q => exact sj_both K _ _ _ a b ha hb G hG i hi s (by omega) (by omega) x c1 c2 p q hp hq
        | none => exact sj_a K _ _ _ a b ha hb G hG i hi s (by omega) (by omega) x c1 c2 p hp hq
      | none =>
        cases hq : mailO b.mails G[i] with
        | some q => exact sj_b K _ _ _ a b ha hb G hG i hi s (by omega) (by omega) x c1 c2 q hp hq
        | none =>
          exfalso
          rcases hmem _ (List.getElem_mem hi) with z | z
          · obtain ⟨m, hm, e⟩ := List.mem_map.1 z; exact mailO_none.1 hp m hm e
          · obtain ⟨m, hm, e⟩ := List.mem_map.1 z; exact mailO_none.1 hq m hm e)
    (fun s x hs => sj_end _ _ _ a b G s x) ([], mx) ⟨by simp, by simp, by simp⟩
  have hr0 := hr (2000128, 2000240)
  generalize g (2000128, 2000240) = y at *
  obtain ⟨v, n⟩ := y
  have el : ((G.foldl (stepJ a b) ([], mx)).1.map encMail).length = (G.foldl (stepJ a b) ([], mx)).1.length := by simp
  generalize G.foldl (stepJ a b) ([], mx) = R at *
  obtain ⟨L, nx⟩ := R
  have ez : ((0 : Nat) : Int) = 0 := rfl
  simp only [sjS, sjE, sjO, ez, List.map_nil, List.length_nil] at hr0
  simp only at el ⊢
  simp only [encBox, mails, ints] at *
  generalize irow G = rg at *
  generalize irow a.gone = ga at *
  generalize irow b.gone = gb at *
  generalize a.mails.map encMail = ra at *
  generalize b.mails.map encMail = rb at *
  generalize L.map encMail = rl at *
  simp (maxSteps := 1000000) [exB, spec_l08Join.m, spec_l08Join.b, List.range_succ, bs_get, setAt, hr0, h1, h2, eg, el, List.take_of_length_le]
end Mx

namespace Mx
open Go
variable {M : Nat → Option Body}
theorem later_eq (t w u x : Int) (p : Prop) : (later u x t w = true ∨ later t w u x = false ∧ p) ↔ (later u x t w = true ∨ (t = u ∧ w = x) ∧ p) := by
  simp only [later_iff, later_not]
  by_cases hp : p
  · simp only [hp, and_true]; omega
  · simp only [hp, and_false, or_false]
theorem joinBox_spec (a b : Box) : joinBox a b = if a.gid = b.gid then
    { gid := a.gid, name := if later b.time b.who a.time a.who = true ∨ (a.time = b.time ∧ a.who = b.who) ∧ bless a.name b.name = true then b.name else a.name,
      time := if later b.time b.who a.time a.who = true ∨ (a.time = b.time ∧ a.who = b.who) ∧ bless a.name b.name = true then b.time else a.time,
      who := if later b.time b.who a.time a.who = true ∨ (a.time = b.time ∧ a.who = b.who) ∧ bless a.name b.name = true then b.who else a.who,
      next := (joinedS a b).2, mails := (joinedS a b).1, gone := joinGone a.gone b.gone } else a := by
  unfold joinBox
  simp only [later_eq a.time a.who b.time b.who]
set_option maxHeartbeats 4000000 in
theorem spec_JoinBox.says (h : spec_JoinBox.k M) (a b : Box) (H : Joins a b) : run M 405 [.a (encBox a), .a (encBox b)] [] = some (.a (encBoxO (joinBox a b)), []) := by
  obtain ⟨h0, kg, kc, kl, kj⟩ := h
  have h1 := spec_l06Copy.says kc a H.ia
  have h2 := spec_JoinGone.says kg a.gone b.gone H.ia.g H.ib.g
  have h3 := spec_Later.says kl b.time b.who a.time a.who
  have h5 := spec_l08Join.says kj a b H.ia H.ib H.xa H.xb
  have e1 : (joinGone a.gone b.gone).length ≤ 4194304 := by
    have := joinGone_le a.gone b.gone
    have := H.ia.g
    have := H.ib.g
    omega
  have e2 := irow_length (joinGone a.gone b.gone)
  have e3 : ((joinedS a b).1.map encMail).length = (joinedS a b).1.length := by simp
  have e4 : (a.mails.map encMail).length = a.mails.length := by simp
  have e5 := irow_length a.gone
  have e6 := bless_gtr a.name b.name
  refine run_code (b := spec_JoinBox.m) h0 ⟨0, ?_⟩
  rw [joinBox_spec]
  by_cases c : a.gid = b.gid
  · rw [if_pos c]
    simp only [encBox, encBoxO, mails, ints] at *
    rw [c] at h5
    generalize hx : later b.time b.who a.time a.who = x at *
    generalize hw : bless a.name b.name = w at *
    generalize (joinedS a b).1.map encMail = rj at *
    generalize (joinedS a b).1.length = nj at *
    generalize (joinedS a b).2 = xj at *
    generalize irow (joinGone a.gone b.gone) = gj at *
    generalize a.mails.map encMail = ra at *
    generalize b.mails.map encMail = rb at *
    generalize irow a.gone = ga at *
    generalize irow b.gone = gb at *
    clear hx hw
    obtain ⟨ag, an, at', aw, anx, am, ago⟩ := a
    obtain ⟨bg, bn, bt, bw, bnx, bm, bgo⟩ := b
    simp only at *
    cases x
    · by_cases c2 : at' = bt
      · subst c2
        by_cases c3 : aw = bw
        · subst c3
          cases w <;> simp (maxSteps := 1000000) [exB, spec_JoinBox.m, spec_JoinBox.b, List.range_succ, bs_get, setAt, h2, h3, h5, c, e1, e2, e3, e6, List.take_of_length_le]
        · simp (maxSteps := 1000000) [exB, spec_JoinBox.m, spec_JoinBox.b, List.range_succ, bs_get, setAt, h2, h3, h5, c, c3, e1, e2, e3, e6, List.take_of_length_le]
      · simp (maxSteps := 1000000) [exB, spec_JoinBox.m, spec_JoinBox.b, List.range_succ, bs_get, setAt, h2, h3, h5, c, c2, e1, e2, e3, e6, List.take_of_length_le]
    · simp (maxSteps := 1000000) [exB, spec_JoinBox.m, spec_JoinBox.b, List.range_succ, bs_get, setAt, h2, h3, h5, c, e1, e2, e3, e6, List.take_of_length_le]
  · rw [if_neg c]
    simp only [encBox, encBoxO, mails, ints] at *
    generalize a.mails.map encMail = ra at *
    generalize b.mails.map encMail = rb at *
    generalize irow a.gone = ga at *
    generalize irow b.gone = gb at *
    simp (maxSteps := 1000000) [exB, spec_JoinBox.m, spec_JoinBox.b, List.range_succ, bs_get, setAt, h1, c, e4, e5, List.take_of_length_le]
end Mx

namespace Mx
open Go
variable {M : Nat → Option Body}
deriving instance DecidableEq for Reg
deriving instance DecidableEq for Mail
deriving instance DecidableEq for Box
/-- two lists of one length, element by element -/
theorem eq_loop {α : Type} [DecidableEq α] (la lb : List α) (hl : la.length = lb.length) {f : St → Option (Out × St)} {β : Type} (S : Nat → β → St) (c e : Nat) (E : β → St)
    (h1 : ∀ i (h : i < la.length) (h' : i < lb.length) x, la[i] = lb[i] → ∃ y, f (S i x) = some (.normal, S (i + 1) y))
    (h2 : ∀ i (h : i < la.length) (h' : i < lb.length) x, ¬ la[i] = lb[i] → ∃ n, f (S i x) = some (.ret, { t := [(c, .c (.bool false))], o := [], n := n }))
    (h3 : ∀ x, ∃ y, f (S la.length x) = some (.exit e, E y)) :
    ∃ g : β → β × Nat, ∀ x, loopN f (la.length + 1) (S 0 x) = some (if la = lb then (.exit e, E (g x).1) else (.ret, { t := [(c, .c (.bool false))], o := [], n := (g x).2 })) := by
  have key := loop_all (f := f) S (fun i => i ≤ la.length) (fun i => la.length - i) (fun i => decide (la.drop i = lb.drop i))
    (fun q (m : β × Nat) => if q = true then (.exit e, E m.1) else (.ret, { t := [(c, .c (.bool false))], o := [], n := m.2 })) (by
      intro i x hi
      by_cases hlt : i < la.length
      · have hlt' : i < lb.length := by omega
        have hd : (la.drop i = lb.drop i) ↔ (la[i] = lb[i] ∧ la.drop (i + 1) = lb.drop (i + 1)) := by
          rw [List.drop_eq_getElem_cons hlt, List.drop_eq_getElem_cons hlt', List.cons.injEq]
        by_cases c' : la[i] = lb[i]
        · obtain ⟨y, hy⟩ := h1 i hlt hlt' x c'
          exact .inl ⟨i + 1, y, hy, hlt, by omega, by rw [decide_eq_decide, hd]; simp [c']⟩
        · obtain ⟨n, hn⟩ := h2 i hlt hlt' x c'
          have hf : decide (la.drop i = lb.drop i) = false := decide_eq_false fun q => c' (hd.1 q).1
          exact .inr ⟨(x, n), by rw [hn, hf]; simp, by rw [hf]; simp⟩
      · have : i = la.length := by omega
        subst this
        obtain ⟨y, hy⟩ := h3 x
        have hd : lb.drop la.length = [] := List.drop_eq_nil_of_le (by omega)
        exact .inr ⟨(y, 0), by rw [hy]; simp [hd], by simp [hd]⟩) (la.length + 1) 0 (Nat.zero_le _) (by omega)
  obtain ⟨g, hg⟩ := key
  refine ⟨g, fun x => ?_⟩
  rw [hg x]
  simp only [List.drop_zero, decide_eq_true_eq]
theorem reg_ext {x y : Reg} (h1 : x.val = y.val) (h2 : x.time = y.time) (h3 : x.who = y.who) : x = y := by
  cases x; cases y; simp_all
theorem mail_ext {x y : Mail} (h1 : x.gid = y.gid) (h2 : x.uid = y.uid) (h3 : x.flags = y.flags) (h4 : x.text = y.text) : x = y := by
  cases x; cases y; simp_all
def smS (a b : Mail) (i : Nat) (x : Nat × Nat × Nat) : St := { t := [(2, .c (.ptr 2 x.1 0 0)), (3, .c (.ptr 3 x.2.1 0 0)), (5, .c (I i))], o := [(2, ⟨x.1, 4, true, true, [encMail a]⟩), (3, ⟨x.2.1, 4, true, true, [encMail b]⟩)], n := x.2.2 }
def smE (a b : Mail) (x : Nat × Nat × Nat) : St := { t := [(2, .c (.ptr 2 x.1 0 0)), (3, .c (.ptr 3 x.2.1 0 0)), (5, .c (I a.flags.length)), (38, .c (.bool false))], o := [(2, ⟨x.1, 4, true, true, [encMail a]⟩), (3, ⟨x.2.1, 4, true, true, [encMail b]⟩)], n := x.2.2 }
theorem spec_SameMail.says (h : spec_SameMail.k M) (a b : Mail) (ha : a.flags.length ≤ 1048576) : run M 159 [.a (encMail a), .a (encMail b)] [] = some (.c (.bool (decide (a = b))), []) := by
  refine run_code (b := spec_SameMail.m) h ⟨a.flags.length + 1, ?_⟩
  by_cases c1 : a.gid = b.gid
  rotate_left
  · have hne : ¬ a = b := fun q => c1 (by rw [q])
    simp [exB, spec_SameMail.m, spec_SameMail.b, List.range_succ, c1, hne]
  by_cases c2 : a.uid = b.uid
  rotate_left
  · have hne : ¬ a = b := fun q => c2 (by rw [q])
    simp [exB, spec_SameMail.m, spec_SameMail.b, List.range_succ, c1, c2, hne]
  by_cases c3 : a.text = b.text
  rotate_left
  · have hne : ¬ a = b := fun q => c3 (by rw [q])
    simp [exB, spec_SameMail.m, spec_SameMail.b, List.range_succ, c1, c2, c3, hne]
  by_cases c4 : a.flags.length = b.flags.length
  rotate_left
  · have hne : ¬ a = b := fun q => c4 (by rw [q])
    have c4' : ¬ (a.flags.length : Int) = b.flags.length := by omega
    simp [exB, spec_SameMail.m, spec_SameMail.b, List.range_succ, c1, c2, c3, c4, c4', hne]
  obtain ⟨g, hr⟩ := eq_loop a.flags b.flags c4 (f := exC (run M) (a.flags.length + 1) spec_SameMail.l0) (smS a b) 4 0 (smE a b)
    (fun i hi hi' x c => by
      obtain ⟨v, w, x⟩ := x
      have e5 : IntKind.i64.wrap ((i : Int) + 1) = (i : Int) + 1 := wrap_i64 (by omega) (by omega)
      simp only [Prod.exists]
      simp [smS, spec_SameMail.l0, hi, hi', e5, encReg, eqL, eqT, c])
    (fun i hi hi' x c => by
      obtain ⟨v, w, x⟩ := x
      by_cases q1 : a.flags[i].val = b.flags[i].val <;> by_cases q2 : a.flags[i].time = b.flags[i].time <;> by_cases q3 : a.flags[i].who = b.flags[i].who <;>
        first
        | exact absurd (reg_ext q1 q2 q3) c
        | simp [smS, spec_SameMail.l0, hi, hi', encReg, eqL, eqT, q1, q2, q3])
    (fun x => by
      obtain ⟨v, w, x⟩ := x
      simp only [Prod.exists]
      simp [smS, smE, spec_SameMail.l0])
  by_cases c5 : a.flags = b.flags
  · have he : a = b := mail_ext c1 c2 c5 c3
    simp only [c5, if_true] at hr
    simp [smS, smE, encMail, ← c5] at hr
    subst he
    simp [exB, spec_SameMail.m, spec_SameMail.b, List.range_succ, hr]
  · have hne : ¬ a = b := fun q => c5 (by rw [q])
    simp only [c5, if_false] at hr
    simp [smS, smE, encMail, c1, c2, c3, c4] at hr
    simp [exB, spec_SameMail.m, spec_SameMail.b, List.range_succ, encMail, c1, c2, c3, c4, hr, hne]
end Mx

namespace Mx
open Go
variable {M : Nat → Option Body}
def sanS (l : List Int) (i : Nat) (x : Nat) : St := { t := [(0, .c (ints l)), (1, .c (ints l)), (5, .c (I i))], o := [], n := x }
def sanE (l : List Int) (x : Nat) : St := { t := [(0, .c (ints l)), (1, .c (ints l)), (5, .c (I l.length)), (14, .c (.bool false))], o := [], n := x }
theorem laws_sameInts.self (h : laws_sameInts.k M) (l : List Int) (hl : l.length ≤ 1048576) : run M 158 [.c (ints l), .c (ints l)] [] = some (.c (.bool true), []) := by
  refine run_code (b := laws_sameInts.m) h ⟨l.length + 1, ?_⟩
  obtain ⟨g, hr⟩ := count_loop (f := exC (run M) (l.length + 1) laws_sameInts.l0) l.length (sanS l) 0 (sanE l)
    (fun i hi x => by
      have e3 : IntKind.i64.wrap ((i : Int) + 1) = (i : Int) + 1 := wrap_i64 (by omega) (by omega)
      have e8 := irow_length l
      have e9 : (irow l)[i]'(by rw [e8]; exact hi) = [I l[i]] := by simp [irow]
      simp only [sanS, ints]
      generalize irow l = r at *
      simp (maxSteps := 1000000) [laws_sameInts.l0, List.range_succ, bs_get, setAt, hi, e3, e8, e9])
    (fun x => by
      have e8 := irow_length l
      simp only [sanS, sanE, ints]
      generalize irow l = r at *
      simp (maxSteps := 1000000) [laws_sameInts.l0, List.range_succ, bs_get, setAt, e8])
  have e8 := irow_length l
  simp only [sanS, sanE, ints] at hr ⊢
  generalize irow l = r at *
  simp at hr
  simp (maxSteps := 1000000) [exB, laws_sameInts.m, laws_sameInts.b, List.range_succ, bs_get, setAt, hr, e8]
def sbO (b : Box) (x : Nat × Nat) : List (Nat × Ob) := [(2, ⟨x.1, 7, true, true, [encBox b]⟩), (3, ⟨x.2, 7, true, true, [encBox b]⟩)]
def sbS (b : Box) (i : Nat) (x : (Nat × Nat) × Nat) : St := { t := [(2, .c (.ptr 2 x.1.1 0 0)), (3, .c (.ptr 3 x.1.2 0 0)), (5, .c (I i))], o := sbO b x.1, n := x.2 }
def sbE (b : Box) (x : (Nat × Nat) × Nat) : St := { t := [(2, .c (.ptr 2 x.1.1 0 0)), (3, .c (.ptr 3 x.1.2 0 0)), (5, .c (I b.mails.length)), (53, .c (.bool false))], o := sbO b x.1, n := x.2 }
theorem laws_sameBox.self (h : laws_sameBox.k M) (b : Box) (hb : BoxIn b) : run M 71 [.a (encBox b), .a (encBox b)] [] = some (.c (.bool true), []) := by
  obtain ⟨h0, k1, k2⟩ := h
  have h1 := laws_sameInts.self k1 b.gone hb.g
  have hm := hb.m
  refine run_code (b := laws_sameBox.m) h0 ⟨b.mails.length + 1, ?_⟩
  have e7 : (b.mails.map encMail).length = b.mails.length := by simp
  have e8 := irow_length b.gone
  obtain ⟨g, hr⟩ := count_loop (f := exC (run M) (b.mails.length + 1) laws_sameBox.l0) b.mails.length (sbS b) 0 (sbE b)
    (fun i hi x => by
      obtain ⟨⟨v1, v2⟩, n⟩ := x
      have h2 := spec_SameMail.says k2 b.mails[i] b.mails[i] (hb.f _ (List.getElem_mem hi))
      rw [decide_eq_true rfl] at h2
      have e3 : IntKind.i64.wrap ((i : Int) + 1) = (i : Int) + 1 := wrap_i64 (by omega) (by omega)
      have hat : (b.mails.map encMail)[i]'(by rw [e7]; exact hi) = [I b.mails[i].gid, I b.mails[i].uid, regs b.mails[i].flags, S b.mails[i].text] := by rw [List.getElem_map]
      simp only [encMail] at h2
      simp only [sbS, sbO, encBox, mails, Prod.exists]
      generalize b.mails.map encMail = rm at *
      simp (maxSteps := 1000000) [laws_sameBox.l0, List.range_succ, bs_get, setAt, hi, h2, e3, e7, hat])
    (fun x => by
      obtain ⟨⟨v1, v2⟩, n⟩ := x
      simp only [sbS, sbE, sbO, encBox, mails, Prod.exists]
      generalize b.mails.map encMail = rm at *
      simp (maxSteps := 1000000) [laws_sameBox.l0, List.range_succ, bs_get, setAt, e7])
  simp only [sbS, sbE, sbO] at hr
  replace hr := fun a c n => hr ⟨⟨a, c⟩, n⟩
  simp only [encBox, mails, ints] at *
  generalize b.mails.map encMail = rm at *
  generalize irow b.gone = rg at *
  simp at hr
  simp (maxSteps := 1000000) [exB, laws_sameBox.m, laws_sameBox.b, List.range_succ, bs_get, setAt, hr, h1, e7, e8]
end Mx

namespace Mx
open Go
variable {M : Nat → Option Body}
theorem laws_big.says (h : laws_big.k M) (R : List (List T)) (hl : R.length ≤ 9223372036854775807) : run M 36 [.c (.sl false 1 R)] [] = some (.c (.bool (decide (1048576 < R.length))), []) := by
  refine run_code (b := laws_big.m) h ⟨0, ?_⟩
  simp (maxSteps := 1000000) [exB, laws_big.m, laws_big.b, List.range_succ, bs_get, setAt]
  omega
end Mx
