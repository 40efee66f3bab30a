/-
  Readers over a cursor: numbers, texts, stamps, lists of numbers, mails, boxes.
-/
import Derived.Test.YtpocolhpkkkmeaaMxToc
import Derived.Test.YtpocolhpkkkmeaaMxTob
import Derived.Test.YtpocolhpkkkmeaaMxTo
set_option linter.unusedSimpArgs false
set_option linter.unusedVariables false
namespace Mx
open Go
variable {M : Nat → Option Body}
/-- a cursor: where it stands, and whether something did not stand there -/
abbrev Cur := Int × Bool
abbrev curO (v : Nat) (l : List UInt8) (c : Cur) : Ob := ⟨v, 3, true, true, [[S l, I c.1, .bool c.2]]⟩
abbrev curP : T := .ptr 0 0 0 0
def cvar (l : List UInt8) (c : Cur) : Int × Cur := if c.2 = true ∨ (readVar l c.1).2.2 = false then (0, c.1, true) else ((readVar l c.1).1, (readVar l c.1).2.1, false)
def cshort (l : List UInt8) (c : Cur) : List UInt8 × Cur := if c.2 = true ∨ (readShort l c.1).2.2 = false then ([], c.1, true) else ((readShort l c.1).1, (readShort l c.1).2.1, false)
theorem cvar_bad {l : List UInt8} {c : Cur} (h : c.2 = true) : cvar l c = (0, c.1, true) := by simp [cvar, h]
theorem cshort_bad {l : List UInt8} {c : Cur} (h : c.2 = true) : cshort l c = ([], c.1, true) := by simp [cshort, h]
theorem impl_scan_num.says (h : impl_scan_num.k M) (l : List UInt8) (hl : l.length ≤ 4611686018427387904) (c : Cur) :
    run M 152 [.c curP] [(0, curO 0 l c)] = some (.c (I (cvar l c).1), [(0, curO 0 l (cvar l c).2)]) := by
  obtain ⟨a, b⟩ := c
  have h1 := impl_ReadVar.says h.2 l hl a
  refine run_code (b := impl_scan_num.m) h.1 ⟨0, ?_⟩
  unfold cvar
  generalize readVar l a = r at *
  obtain ⟨n, e, ok⟩ := r
  cases b <;> cases ok <;> simp (maxSteps := 1000000) [exB, impl_scan_num.m, impl_scan_num.b, List.range_succ, bs_get, setAt, h1]
theorem impl_scan_short.says (h : impl_scan_short.k M) (l : List UInt8) (hl : l.length ≤ 4611686018427387904) (c : Cur) :
    run M 153 [.c curP] [(0, curO 0 l c)] = some (.c (S (cshort l c).1), [(0, curO 0 l (cshort l c).2)]) := by
  obtain ⟨a, b⟩ := c
  have h1 := impl_ReadShort.says h.2 l hl a
  refine run_code (b := impl_scan_short.m) h.1 ⟨0, ?_⟩
  unfold cshort
  generalize readShort l a = r at *
  obtain ⟨n, e, ok⟩ := r
  cases b <;> cases ok <;> simp (maxSteps := 1000000) [exB, impl_scan_short.m, impl_scan_short.b, List.range_succ, bs_get, setAt, h1]
theorem spec_l05Var.says (h : spec_l05Var.k M) (l : List UInt8) (hl : l.length ≤ 4611686018427387904) (c : Cur) :
    run M 139 [.c curP] [(0, curO 0 l c)] = some (.c (I (cvar l c).1), [(0, curO 0 l (cvar l c).2)]) := by
  obtain ⟨a, b⟩ := c
  have h1 := spec_ReadVar.says h.2 l hl a
  refine run_code (b := spec_l05Var.m) h.1 ⟨0, ?_⟩
  unfold cvar
  generalize readVar l a = r at *
  obtain ⟨n, e, ok⟩ := r
  cases b <;> cases ok <;> simp (maxSteps := 1000000) [exB, spec_l05Var.m, spec_l05Var.b, List.range_succ, bs_get, setAt, h1]
theorem spec_l05Short.says (h : spec_l05Short.k M) (l : List UInt8) (hl : l.length ≤ 4611686018427387904) (c : Cur) :
    run M 140 [.c curP] [(0, curO 0 l c)] = some (.c (S (cshort l c).1), [(0, curO 0 l (cshort l c).2)]) := by
  obtain ⟨a, b⟩ := c
  have h1 := spec_ReadShort.says h.2 l hl a
  refine run_code (b := spec_l05Short.m) h.1 ⟨0, ?_⟩
  unfold cshort
  generalize readShort l a = r at *
  obtain ⟨n, e, ok⟩ := r
  cases b <;> cases ok <;> simp (maxSteps := 1000000) [exB, spec_l05Short.m, spec_l05Short.b, List.range_succ, bs_get, setAt, h1]
/-- how many: more than a limit is a fault -/
def cmany (l : List UInt8) (most : Int) (c : Cur) : Int × Cur :=
  if most < (cvar l c).1 ∨ (cvar l c).2.2 = true then (0, (cvar l c).2.1, true) else cvar l c
theorem impl_scan_many.says (h : impl_scan_many.k M) (l : List UInt8) (hl : l.length ≤ 4611686018427387904) (most : Int) (c : Cur) :
    run M 169 [.c curP, .c (I most)] [(0, curO 0 l c)] = some (.c (I (cmany l most c).1), [(0, curO 0 l (cmany l most c).2)]) := by
  have h1 := impl_scan_num.says h.2 l hl c
  refine run_code (b := impl_scan_many.m) h.1 ⟨0, ?_⟩
  unfold cmany
  generalize cvar l c = r at *
  obtain ⟨n, e, b⟩ := r
  by_cases c1 : most < n
  · simp (maxSteps := 1000000) [exB, impl_scan_many.m, impl_scan_many.b, List.range_succ, bs_get, setAt, h1, c1]
  · cases b <;> simp (maxSteps := 1000000) [exB, impl_scan_many.m, impl_scan_many.b, List.range_succ, bs_get, setAt, h1, c1]
/-- a stamp -/
def cstamp (l : List UInt8) (c : Cur) : (Int × Int) × Cur := (((cvar l c).1, (cvar l (cvar l c).2).1), (cvar l (cvar l c).2).2)
theorem impl_scan_stamp.says (h : impl_scan_stamp.k M) (l : List UInt8) (hl : l.length ≤ 4611686018427387904) (c : Cur) :
    run M 222 [.c curP] [(0, curO 0 l c)] = some (.a [I (cstamp l c).1.1, I (cstamp l c).1.2], [(0, curO 0 l (cstamp l c).2)]) := by
  have h1 := impl_scan_num.says h.2 l hl c
  have h2 := impl_scan_num.says h.2 l hl (cvar l c).2
  refine run_code (b := impl_scan_stamp.m) h.1 ⟨0, ?_⟩
  simp (maxSteps := 1000000) [exB, impl_scan_stamp.m, impl_scan_stamp.b, List.range_succ, bs_get, setAt, h1, h2, cstamp]
/-- n things one behind the other -/
def crep {α : Type} (p : Cur → α × Cur) : Nat → Cur → List α × Cur
  | 0, c => ([], c)
  | n + 1, c => ((p c).1 :: (crep p n (p c).2).1, (crep p n (p c).2).2)
theorem crep_len {α : Type} (p : Cur → α × Cur) : ∀ n c, (crep p n c).1.length = n
  | 0, c => rfl
  | n + 1, c => by simp [crep, crep_len p n]
theorem rep_loop {α β γ : Type} (n : Nat) (p : Cur → α × Cur) {f : St → Option (Out × St)} (S : Nat → List α → Cur → β → St) (e : Nat) (E : List α → Cur → γ → St)
    (h1 : ∀ i, i < n → ∀ acc c x, acc.length = i → ∃ y, f (S i acc c x) = some (.normal, S (i + 1) (acc ++ [(p c).1]) (p c).2 y))
    (h3 : ∀ acc c x, acc.length = n → ∃ y, f (S n acc c x) = some (.exit e, E acc c y)) (c : Cur) :
    ∃ g : β → γ, ∀ x, loopN f (n + 1) (S 0 [] c x) = some (.exit e, E (crep p n c).1 (crep p n c).2 (g x)) := by
  have := loop_all (f := f) (fun s : Nat × List α × Cur => S s.1 s.2.1 s.2.2) (fun s => s.1 ≤ n ∧ s.2.1.length = s.1) (fun s => n - s.1) (fun s => (s.2.1 ++ (crep p (n - s.1) s.2.2).1, (crep p (n - s.1) s.2.2).2)) (fun q m => (.exit e, E q.1 q.2 m)) ?_ (n + 1) (0, [], c) ⟨Nat.zero_le _, rfl⟩ (by simp)
  · simpa using this
  rintro ⟨i, acc, c⟩ x ⟨hi, ha⟩
  simp only at hi ha
  by_cases hlt : i < n
  · left
    obtain ⟨y, hy⟩ := h1 i hlt acc c x ha
    refine ⟨(i + 1, acc ++ [(p c).1], (p c).2), y, hy, ⟨hlt, by simp [ha]⟩, by simp only; omega, ?_⟩
    simp only
    rw [show n - i = (n - (i + 1)) + 1 by omega]
    simp [crep]
  · have : i = n := by omega
    subst this
    right
    obtain ⟨y, hy⟩ := h3 acc c x ha
    exact ⟨y, by simp [hy, crep], by simp⟩
def cnums (l : List UInt8) (most : Int) (c : Cur) : List Int × Cur := crep (cvar l) (cmany l most c).1.toNat (cmany l most c).2
theorem cvar_nn (l : List UInt8) (c : Cur) : 0 ≤ (cvar l c).1 ∧ (cvar l c).1 ≤ 1000000000 := by
  have := (readVar_le l c.1).1
  unfold cvar; split <;> simp <;> omega
theorem cmany_nn (l : List UInt8) (most : Int) (c : Cur) : 0 ≤ (cmany l most c).1 ∧ (cmany l most c).1 ≤ 1000000000 ∧ (0 ≤ most → (cmany l most c).1 ≤ most) := by
  have := cvar_nn l c
  unfold cmany; split
  · simp
  · rename_i h; rw [not_or] at h; omega
def nuS (l : List UInt8) (n : Nat) (i : Nat) (acc : List Int) (c : Cur) (x : Nat × Nat) : St := { t := [(0, .c curP), (5, .c (.row 8 x.1 0 i)), (12, .c (I n)), (13, .c (I i))], o := [(0, curO 0 l c), (8, ⟨x.1, 1, true, false, irow acc⟩)], n := x.2 }
def nuE (l : List UInt8) (n : Nat) (acc : List Int) (c : Cur) (x : Nat × Nat) : St := { t := [(0, .c curP), (5, .c (.row 8 x.1 0 n)), (12, .c (I n)), (13, .c (I n)), (14, .c (.bool false))], o := [(0, curO 0 l c), (8, ⟨x.1, 1, true, false, irow acc⟩)], n := x.2 }
theorem impl_scan_nums.says (h : impl_scan_nums.k M) (l : List UInt8) (hl : l.length ≤ 4611686018427387904) (most : Int) (c : Cur) :
    run M 170 [.c curP, .c (I most)] [(0, curO 0 l c)] = some (.c (.sl true 1 (irow (cnums l most c).1)), [(0, curO 0 l (cnums l most c).2)]) := by
  obtain ⟨h0, k1, k2⟩ := h
  have h1 := impl_scan_many.says k2 l hl most c
  have hn := cmany_nn l most c
  unfold cnums
  generalize cmany l most c = q at *
  obtain ⟨n, c1⟩ := q
  simp only at hn ⊢
  obtain ⟨n, rfl⟩ := Int.eq_ofNat_of_zero_le hn.1
  simp only [Int.toNat_natCast]
  refine run_code (b := impl_scan_nums.m) h0 ⟨n + 1, ?_⟩
  obtain ⟨g, hr⟩ := rep_loop (f := exC (run M) (n + 1) impl_scan_nums.l0) n (cvar l) (nuS l n) 0 (nuE l n)
    (fun i hi acc c x ha => by
      obtain ⟨v, x⟩ := x
      have h2 := impl_scan_num.says k1 l hl c
      have e5 : IntKind.i64.wrap ((i : Int) + 1) = (i : Int) + 1 := wrap_i64 (by omega) (by omega)
      have e6 : i + 1 ≤ 4294967296 := by omega
      have hii : (i : Int) < n := by omega
      simp only [Prod.exists]
      simp (maxSteps := 1000000) [impl_scan_nums.l0, List.range_succ, bs_get, setAt, nuS, hii, h2, e5, e6, ha, irow, List.take_of_length_le])
    (fun acc c x ha => by
      obtain ⟨v, x⟩ := x
      simp only [Prod.exists]
      simp (maxSteps := 1000000) [impl_scan_nums.l0, List.range_succ, bs_get, setAt, nuS, nuE]) c1
  have hlen := crep_len (cvar l) n c1
  simp [nuS, nuE, irow] at hr
  simp (maxSteps := 1000000) [exB, impl_scan_nums.m, impl_scan_nums.b, List.range_succ, bs_get, setAt, h1, hr, hlen, irow, List.take_of_length_le]
theorem wrap_one : IntKind.i64.wrap 1 = 1 := wrap_i64 (by omega) (by omega)
/-! ## mails -/
def creg (l : List UInt8) (c : Cur) : Reg × Cur := (⟨(cvar l c).1, (cstamp l (cvar l c).2).1.1, (cstamp l (cvar l c).2).1.2⟩, (cstamp l (cvar l c).2).2)
def cmail (l : List UInt8) (c : Cur) : Mail × Cur :=
  let g := cvar l c
  let u := cvar l g.2
  let f := crep (creg l) 3 u.2
  let t := cshort l f.2
  (⟨g.1, u.1, f.1, t.1⟩, t.2)
abbrev bzero : List T := [I 0, .str ⟨#[]⟩, I 0, I 0, I 0, .nils 4, .nils 1]
abbrev mzero : List T := [I 0, I 0, .nils 3, .str ⟨#[]⟩]
structure Four where
  a : Nat
  b : Nat
  c : Nat
  d : Nat
theorem Four.ex {p : Four → Prop} : (∃ x, p x) ↔ ∃ a b c d, p ⟨a, b, c, d⟩ := ⟨fun ⟨⟨a, b, c, d⟩, h⟩ => ⟨a, b, c, d, h⟩, fun ⟨a, b, c, d, h⟩ => ⟨⟨a, b, c, d⟩, h⟩⟩
def mlS (l : List UInt8) (g u : Int) (i : Nat) (acc : List Reg) (c : Cur) (x : Four) : St := { t := [(0, .c curP), (2, .c (.ptr 2 x.a 0 0)), (3, .c (.ptr 3 x.b 0 0)), (11, .c (I i))], o := [(0, curO 0 l c), (2, ⟨x.a, 4, true, true, [mzero]⟩), (3, ⟨x.b, 4, true, true, [[I g, I u, if i = 0 then .nils 3 else .row 23 x.c 0 i, .str ⟨#[]⟩]]⟩)] ++ if i = 0 then [] else [(23, ⟨x.c, 3, true, false, acc.map encReg⟩)], n := x.d }
def mlE (l : List UInt8) (g u : Int) (acc : List Reg) (c : Cur) (x : Four) : St := { t := [(0, .c curP), (2, .c (.ptr 2 x.a 0 0)), (3, .c (.ptr 3 x.b 0 0)), (11, .c (I 3)), (12, .c (.bool false))], o := [(0, curO 0 l c), (2, ⟨x.a, 4, true, true, [mzero]⟩), (3, ⟨x.b, 4, true, true, [[I g, I u, .row 23 x.c 0 3, .str ⟨#[]⟩]]⟩), (23, ⟨x.c, 3, true, false, acc.map encReg⟩)], n := x.d }
theorem impl_scan_mail.says (h : impl_scan_mail.k M) (l : List UInt8) (hl : l.length ≤ 4611686018427387904) (c : Cur) :
    run M 223 [.c curP] [(0, curO 0 l c)] = some (.a (encMailO (cmail l c).1), [(0, curO 0 l (cmail l c).2)]) := by
  obtain ⟨h0, k1, k2, k3⟩ := h
  have h1 := impl_scan_num.says k1 l hl c
  have h2 := impl_scan_num.says k1 l hl (cvar l c).2
  refine run_code (b := impl_scan_mail.m) h0 ⟨4, ?_⟩
  obtain ⟨g, hr⟩ := rep_loop (f := exC (run M) 4 impl_scan_mail.l0) 3 (creg l) (mlS l (cvar l c).1 (cvar l (cvar l c).2).1) 0 (mlE l (cvar l c).1 (cvar l (cvar l c).2).1)
    (fun i hi acc c x ha => by
      obtain ⟨v, w, z, x⟩ := x
      have h2 := impl_scan_num.says k1 l hl c
      have h3 := impl_scan_stamp.says k3 l hl (cvar l c).2
      have e5 : IntKind.i64.wrap ((i : Int) + 1) = (i : Int) + 1 := wrap_i64 (by omega) (by omega)
      have hii : (i : Int) < 3 := by omega
      simp only [Four.ex]
      cases i with
      | zero =>
        have : acc = [] := List.eq_nil_of_length_eq_zero ha
        subst this
        simp (maxSteps := 1000000) [impl_scan_mail.l0, List.range_succ, bs_get, setAt, mlS, hii, h2, h3, wrap_one, encReg, creg]
      | succ i =>
        have e6 : i + 1 + 1 ≤ 4294967296 := by omega
        have e7 : (i : Int) + 1 < 3 := by omega
        have e5 : IntKind.i64.wrap ((i : Int) + 1 + 1) = (i : Int) + 1 + 1 := wrap_i64 (by omega) (by omega)
        simp (maxSteps := 1000000) [impl_scan_mail.l0, List.range_succ, bs_get, setAt, mlS, e7, h2, h3, e5, e6, ha, encReg, creg, List.take_of_length_le])
    (fun acc c x ha => by
      obtain ⟨v, w, z, x⟩ := x
      simp only [Four.ex]
      simp (maxSteps := 1000000) [impl_scan_mail.l0, List.range_succ, bs_get, setAt, mlS, mlE]) (cvar l (cvar l c).2).2
  have hlen := crep_len (creg l) 3 (cvar l (cvar l c).2).2
  have h4 := impl_scan_short.says k2 l hl (crep (creg l) 3 (cvar l (cvar l c).2).2).2
  simp only [cmail]
  generalize crep (creg l) 3 (cvar l (cvar l c).2).2 = q at *
  replace hr := fun a b d => hr ⟨a, b, 0, d⟩
  simp [mlS, mlE] at hr
  simp (maxSteps := 1000000) [exB, impl_scan_mail.m, impl_scan_mail.b, List.range_succ, bs_get, setAt, h1, h2, h4, hr, hlen, List.take_of_length_le]
end Mx

/-
  What is done in boxes: copies, flags.
-/
namespace Mx
open Go
variable {M : Nat → Option Body}
theorem impl_copyRegs.says (h : impl_copyRegs.k M) (l : List Reg) (hl : l.length ≤ 1048576) : run M 239 [.c (regs l)] [] = some (.c (.sl true 3 (l.map encReg)), []) := by
  refine run_code (b := impl_copyRegs.m) h ⟨0, ?_⟩
  have e : (l.map encReg).length = l.length := by simp
  have h1 : l.length ≤ 4294967296 := by omega
  simp only [regs]
  generalize l.map encReg = r at *
  simp (maxSteps := 1000000) [exB, impl_copyRegs.m, impl_copyRegs.b, List.range_succ, bs_get, setAt, e, h1, List.take_of_length_le]
theorem spec_l04Copy.says (h : spec_l04Copy.k M) (l : List Reg) (hl : l.length ≤ 1048576) : run M 241 [.c (regs l)] [] = some (.c (.sl true 3 (l.map encReg)), []) := by
  refine run_code (b := spec_l04Copy.m) h ⟨0, ?_⟩
  have e : (l.map encReg).length = l.length := by simp
  have h1 : l.length ≤ 4294967296 := by omega
  simp only [regs]
  generalize l.map encReg = r at *
  simp (maxSteps := 1000000) [exB, spec_l04Copy.m, spec_l04Copy.b, List.range_succ, bs_get, setAt, e, h1, List.take_of_length_le]
theorem impl_copyMail.says (h : impl_copyMail.k M) (m : Mail) (hl : m.flags.length ≤ 1048576) : run M 233 [.a (encMail m)] [] = some (.a (encMailO m), []) := by
  have h1 := impl_copyRegs.says h.2 m.flags hl
  refine run_code (b := impl_copyMail.m) h.1 ⟨0, ?_⟩
  have e : (m.flags.map encReg).length = m.flags.length := by simp
  simp only [encMail, encMailO, regs] at *
  generalize m.flags.map encReg = r at *
  simp (maxSteps := 1000000) [exB, impl_copyMail.m, impl_copyMail.b, List.range_succ, bs_get, setAt, h1, e, List.take_of_length_le]
theorem spec_l05Copy.says (h : spec_l05Copy.k M) (m : Mail) (hl : m.flags.length ≤ 1048576) : run M 238 [.a (encMail m)] [] = some (.a (encMailO m), []) := by
  have h1 := spec_l04Copy.says h.2 m.flags hl
  refine run_code (b := spec_l05Copy.m) h.1 ⟨0, ?_⟩
  have e : (m.flags.map encReg).length = m.flags.length := by simp
  simp only [encMail, encMailO, regs] at *
  generalize m.flags.map encReg = r at *
  simp (maxSteps := 1000000) [exB, spec_l05Copy.m, spec_l05Copy.b, List.range_succ, bs_get, setAt, h1, e, List.take_of_length_le]
/-- a loop that counts -/
theorem count_loop {β γ : Type} (n : Nat) {f : St → Option (Out × St)} (S : Nat → β → St) (e : Nat) (E : γ → St)
    (h1 : ∀ i, i < n → ∀ x, ∃ y, f (S i x) = some (.normal, S (i + 1) y)) (h3 : ∀ x, ∃ y, f (S n x) = some (.exit e, E y)) :
    ∃ g : β → γ, ∀ x, loopN f (n + 1) (S 0 x) = some (.exit e, E (g x)) := by
  refine loop_all (f := f) S (fun i => i ≤ n) (fun i => n - i) (fun _ => ()) (fun _ m => (.exit e, E m)) ?_ (n + 1) 0 (Nat.zero_le _) (by omega)
  intro i x hi
  by_cases hlt : i < n
  · left
    obtain ⟨y, hy⟩ := h1 i hlt x
    exact ⟨i + 1, y, hy, hlt, by omega, rfl⟩
  · have : i = n := by omega
    subst this
    right
    obtain ⟨y, hy⟩ := h3 x
    exact ⟨y, by simp [hy], by simp⟩
def icO (b : Box) (i : Nat) (x : Four × Nat) : List (Nat × Ob) := [(1, ⟨x.1.a, 7, true, true, [encBox b]⟩), (2, ⟨x.1.b, 7, true, true, [bzero]⟩), (3, ⟨x.2, 7, true, true, [[I b.gid, S b.name, I b.time, I b.who, I b.next, .row 7 x.1.c 0 i, ints b.gone]]⟩), (7, ⟨x.1.c, 4, true, false, (b.mails.take i).map encMail⟩)]
def icS (b : Box) (i : Nat) (x : Four × Nat) : St := { t := [(1, .c (.ptr 1 x.1.a 0 0)), (2, .c (.ptr 2 x.1.b 0 0)), (3, .c (.ptr 3 x.2 0 0)), (10, .c (mails b.mails)), (11, .c (I b.mails.length)), (12, .c (I i))], o := icO b i x, n := x.1.d }
def icE (b : Box) (x : Four × Nat) : St := { t := [(1, .c (.ptr 1 x.1.a 0 0)), (2, .c (.ptr 2 x.1.b 0 0)), (3, .c (.ptr 3 x.2 0 0)), (10, .c (mails b.mails)), (11, .c (I b.mails.length)), (12, .c (I b.mails.length)), (13, .c (.bool false))], o := icO b b.mails.length x, n := x.1.d }
theorem take_snoc {α : Type} (l : List α) (i : Nat) (h : i < l.length) : l.take (i + 1) = l.take i ++ [l[i]] := List.take_succ_eq_append_getElem h
theorem impl_copyBox.says (h : impl_copyBox.k M) (b : Box) (hb : BoxIn b) : run M 155 [.a (encBox b)] [] = some (.a (encBoxO b), []) := by
  obtain ⟨h0, k1, k2⟩ := h
  have hm := hb.m
  have h1 := impl_copyInts.says k1 b.gone hb.g
  refine run_code (b := impl_copyBox.m) h0 ⟨b.mails.length + 1, ?_⟩
  obtain ⟨g, hr⟩ := count_loop (f := exC (run M) (b.mails.length + 1) impl_copyBox.l0) b.mails.length (icS b) 0 (icE b)
    (fun i hi x => by
      obtain ⟨⟨v1, v2, v3, n⟩, v4⟩ := x
      have h2 := impl_copyMail.says k2 b.mails[i] (hb.f _ (List.getElem_mem hi))
      have e5 : IntKind.i64.wrap ((i : Int) + 1) = (i : Int) + 1 := wrap_i64 (by omega) (by omega)
      have e6 : i + 1 ≤ 4294967296 := by omega
      have e7 : ((b.mails.take i).map encMail).length = i := by simp; omega
      have e8 : ((b.mails.take (i + 1)).map encMail) = (b.mails.take i).map encMail ++ [encMail b.mails[i]] := by rw [take_snoc _ _ hi, List.map_append]; rfl
      simp only [icS, icO, e8, Prod.exists, Four.ex]
      generalize (b.mails.take i).map encMail = rr at *
      simp only [encMail, encMailO] at h2
      simp (maxSteps := 1000000) [impl_copyBox.l0, List.range_succ, bs_get, setAt, hi, h2, e5, e6, e7, encMail, List.take_of_length_le]
      exact ⟨_, _, _, _, _, ⟨rfl, rfl, rfl⟩, ⟨rfl, rfl, rfl, rfl⟩, rfl⟩)
    (fun x => by
      obtain ⟨⟨v1, v2, v3, n⟩, v4⟩ := x
      simp only [Prod.exists, Four.ex]
      simp (maxSteps := 1000000) [impl_copyBox.l0, List.range_succ, bs_get, setAt, icS, icE, icO]
      exact ⟨_, _, _, _, _, ⟨rfl, rfl, rfl⟩, ⟨rfl, rfl, rfl, rfl⟩, rfl⟩)
  have e7 : (b.mails.map encMail).length = b.mails.length := by simp
  have e8 := irow_length b.gone
  have e9 : b.mails.take b.mails.length = b.mails := by simp
  simp only [ints] at h1
  simp only [icS, icE, icO, e9, List.take_zero, List.map_nil, ints] at hr
  replace hr := fun a b c d n => hr ⟨⟨a, b, c, d⟩, n⟩
  simp only [encBox, encBoxO, mails, ints] at hr ⊢
  generalize b.mails.map encMail = rm at *
  generalize irow b.gone = rg at *
  simp at hr
  simp (maxSteps := 1000000) [exB, impl_copyBox.m, impl_copyBox.b, List.range_succ, bs_get, setAt, hr, h1, e7, e8, List.take_of_length_le]
def scO (b : Box) (i : Nat) (x : Four × Nat) : List (Nat × Ob) := [(1, ⟨x.1.a, 7, true, true, [encBox b]⟩), (2, ⟨x.1.b, 7, true, true, [bzero]⟩), (3, ⟨x.2, 7, true, true, [[I b.gid, S b.name, I b.time, I b.who, I b.next, .row 6 x.1.c 0 i, ints b.gone]]⟩), (6, ⟨x.1.c, 4, true, false, (b.mails.take i).map encMail⟩)]
def scS (b : Box) (i : Nat) (x : Four × Nat) : St := { t := [(1, .c (.ptr 1 x.1.a 0 0)), (2, .c (.ptr 2 x.1.b 0 0)), (3, .c (.ptr 3 x.2 0 0)), (4, .c (I i))], o := scO b i x, n := x.1.d }
def scE (b : Box) (x : Four × Nat) : St := { t := [(1, .c (.ptr 1 x.1.a 0 0)), (2, .c (.ptr 2 x.1.b 0 0)), (3, .c (.ptr 3 x.2 0 0)), (4, .c (I b.mails.length)), (12, .c (.bool false))], o := scO b b.mails.length x, n := x.1.d }
theorem spec_l06Copy.says (h : spec_l06Copy.k M) (b : Box) (hb : BoxIn b) : run M 180 [.a (encBox b)] [] = some (.a (encBoxO b), []) := by
  obtain ⟨h0, k2⟩ := h
  have hm := hb.m
  have hg := hb.g
  refine run_code (b := spec_l06Copy.m) h0 ⟨b.mails.length + 1, ?_⟩
  obtain ⟨g, hr⟩ := count_loop (f := exC (run M) (b.mails.length + 1) spec_l06Copy.l0) b.mails.length (scS b) 0 (scE b)
    (fun i hi x => by
      obtain ⟨⟨v1, v2, v3, n⟩, v4⟩ := x
      have h2 := spec_l05Copy.says k2 b.mails[i] (hb.f _ (List.getElem_mem hi))
      have e5 : IntKind.i64.wrap ((i : Int) + 1) = (i : Int) + 1 := wrap_i64 (by omega) (by omega)
      have e6 : i + 1 ≤ 4294967296 := by omega
      have e7 : ((b.mails.take i).map encMail).length = i := by simp; omega
      have e8 : ((b.mails.take (i + 1)).map encMail) = (b.mails.take i).map encMail ++ [encMail b.mails[i]] := by rw [take_snoc _ _ hi, List.map_append]; rfl
      simp only [scS, scO, e8, Prod.exists, Four.ex]
      generalize (b.mails.take i).map encMail = rr at *
      simp only [encMail, encMailO] at h2
      simp (maxSteps := 1000000) [spec_l06Copy.l0, List.range_succ, bs_get, setAt, hi, h2, e5, e6, e7, encMail, List.take_of_length_le]
      exact ⟨_, _, _, _, _, ⟨rfl, rfl, rfl⟩, ⟨rfl, rfl, rfl, rfl⟩, rfl⟩)
    (fun x => by
      obtain ⟨⟨v1, v2, v3, n⟩, v4⟩ := x
      simp only [Prod.exists, Four.ex]
      simp (maxSteps := 1000000) [spec_l06Copy.l0, List.range_succ, bs_get, setAt, scS, scE, scO]
      exact ⟨_, _, _, _, _, ⟨rfl, rfl, rfl⟩, ⟨rfl, rfl, rfl, rfl⟩, rfl⟩)
  have e7 : (b.mails.map encMail).length = b.mails.length := by simp
  have e8 := irow_length b.gone
  have e9 : b.mails.take b.mails.length = b.mails := by simp
  have e6 : b.gone.length ≤ 4294967296 := by omega
  simp only [scS, scE, scO, e9, List.take_zero, List.map_nil, ints] at hr
  replace hr := fun a b c d n => hr ⟨⟨a, b, c, d⟩, n⟩
  simp only [encBox, encBoxO, mails, ints] at hr ⊢
  generalize b.mails.map encMail = rm at *
  generalize irow b.gone = rg at *
  simp at hr
  simp (maxSteps := 1000000) [exB, spec_l06Copy.m, spec_l06Copy.b, List.range_succ, bs_get, setAt, hr, e6, e7, e8, List.take_of_length_le]
/-! ## flags -/
def bitOf (n : Int) (i : Nat) : Int := n.fdiv ((2 ^ i : Nat) : Int) % 2
theorem and_one (x : Int) : andI .i64 x 1 = x % 2 := by
  unfold andI
  have h1 : (BitVec.ofInt IntKind.i64.bits x &&& BitVec.ofInt IntKind.i64.bits 1).toNat = (x % 2).toNat := by
    change (BitVec.ofInt 64 x &&& BitVec.ofInt 64 1).toNat = (x % 2).toNat
    simp only [BitVec.toNat_and, BitVec.toNat_ofInt]
    have : ((1 : Int) % ((2 ^ 64 : Nat) : Int)).toNat = 1 := by decide
    rw [this, Nat.and_one_is_mod]
    have h2 : (x % ((2 ^ 64 : Nat) : Int)).toNat % 2 = (x % ((2 ^ 64 : Nat) : Int) % 2).toNat := by
      have : 0 ≤ x % ((2 ^ 64 : Nat) : Int) := Int.emod_nonneg _ (by decide)
      omega
    rw [h2]
    congr 1
    have : ((2 ^ 64 : Nat) : Int) = 18446744073709551616 := by decide
    rw [this]; omega
  rw [h1, wrap_i64 (by omega) (by omega)]
  omega
def flagsNew (n t w : Int) : List Reg := [⟨bitOf n 0, t, w⟩, ⟨bitOf n 1, t, w⟩, ⟨bitOf n 2, t, w⟩]
theorem impl_FlagsNew.says (h : impl_FlagsNew.k M) (n t w : Int) : run M 157 [.c (I n), .a [I t, I w]] [] = some (.c (.sl true 3 ((flagsNew n t w).map encReg)), []) := by
  refine run_code (b := impl_FlagsNew.m) h ⟨4, ?_⟩
  have w2 : IntKind.i64.wrap 2 = 2 := wrap_i64 (by omega) (by omega)
  have w3 : IntKind.i64.wrap 3 = 3 := wrap_i64 (by omega) (by omega)
  simp (maxSteps := 1000000) [exB, impl_FlagsNew.m, impl_FlagsNew.b, List.range_succ, bs_get, setAt, loopN, impl_FlagsNew.l0, wrap_one, w2, w3, and_one, flagsNew, encReg, bitOf, IntKind.bits]
theorem tmod_two (x : Int) : (x.tmod 2 = 0) ↔ x % 2 = 0 :=
  ⟨fun h => Int.emod_eq_zero_of_dvd (Int.dvd_of_tmod_eq_zero h), fun h => Int.tmod_eq_zero_of_dvd (Int.dvd_of_emod_eq_zero h)⟩
theorem spec_FlagsNew.says (h : spec_FlagsNew.k M) (n t w : Int) : run M 181 [.c (I n), .a [I t, I w]] [] = some (.c (.sl true 3 ((flagsNew n t w).map encReg)), []) := by
  refine run_code (b := spec_FlagsNew.m) h ⟨4, ?_⟩
  have w2 : IntKind.i64.wrap 2 = 2 := wrap_i64 (by omega) (by omega)
  have w3 : IntKind.i64.wrap 3 = 3 := wrap_i64 (by omega) (by omega)
  have u0 : IntKind.u64.wrap 0 = 0 := by decide
  have u1 : IntKind.u64.wrap 1 = 1 := by decide
  have u2 : IntKind.u64.wrap 2 = 2 := by decide
  have key : ∀ i : Nat, bitOf n i = if (n.fdiv ((2 ^ i : Nat) : Int)).tmod 2 = 0 then 0 else 1 := by
    intro i
    unfold bitOf
    by_cases c : (n.fdiv ((2 ^ i : Nat) : Int)).tmod 2 = 0
    · rw [if_pos c]; exact (tmod_two _).1 c
    · rw [if_neg c]; rw [tmod_two] at c; omega
  have k0 := key 0
  have k1 := key 1
  have k2 := key 2
  by_cases c0 : (n.fdiv ((2 ^ 0 : Nat) : Int)).tmod 2 = 0 <;> by_cases c1 : (n.fdiv ((2 ^ 1 : Nat) : Int)).tmod 2 = 0 <;> by_cases c2 : (n.fdiv ((2 ^ 2 : Nat) : Int)).tmod 2 = 0 <;>
    simp only [c0, c1, c2, if_true, if_false] at k0 k1 k2 <;> simp at c0 c1 c2 <;>
    simp (maxSteps := 1000000) [exB, spec_FlagsNew.m, spec_FlagsNew.b, List.range_succ, bs_get, setAt, loopN, spec_FlagsNew.l0, wrap_one, w2, w3, u0, u1, u2, flagsNew, encReg, k0, k1, k2, c0, c1, c2, IntKind.bits]
end Mx

/-
  What is drawn: a new cursor, places.
-/
namespace Mx
open Go
variable {M : Nat → Option Body}
def byteAt (R : List (List T)) (i : Nat) : Int := match R[i]? with
  | some [.int _ n] => IntKind.i64.wrap n
  | _ => 0
def hAt (R : List (List T)) : Nat → Int
  | 0 => 77201 + R.length
  | i + 1 => andI .i64 (IntKind.i64.wrap (IntKind.i64.wrap (IntKind.i64.wrap (hAt R i * 131) + byteAt R i) + 7)) 1073741823
def lnN (R : List (List T)) : Nat := min R.length 4000
def lnS (R : List (List T)) (i : Nat) (x : Nat) : St := { t := [(0, .c (.sl false 1 R)), (3, .c (I (hAt R i))), (4, .c (I i))], o := [], n := x }
def lnE (R : List (List T)) (x : Nat) : St := { t := [(0, .c (.sl false 1 R)), (3, .c (I (hAt R (lnN R)))), (4, .c (I (lnN R))), (15, .c (.bool false))], o := [], n := x }
theorem spec_l01New.says (h : spec_l01New.k M) {R : List (List T)} (hR : Bytes R) :
    ∃ q : Int, run M 124 [.c (.sl false 1 R)] [] = some (.c (.vp [.sl false 1 R, I 0, I q] 0), []) := by
  refine ⟨hAt R (lnN R), run_code (b := spec_l01New.m) h ⟨lnN R + 1, ?_⟩⟩
  have hl := hR.1
  obtain ⟨g, hr⟩ := count_loop (f := exC (run M) (lnN R + 1) spec_l01New.l0) (lnN R) (lnS R) 0 (lnE R)
    (fun i hi x => by
      have h1 : i < R.length := by unfold lnN at hi; omega
      have h2 : i < 4000 := by unfold lnN at hi; omega
      have h3 : (i : Int) < 4000 := by omega
      obtain ⟨n, hn⟩ := hR.2 i R[i] (List.getElem?_eq_getElem h1)
      have hb : byteAt R i = IntKind.i64.wrap n := by simp [byteAt, h1, hn]
      have e3 : IntKind.i64.wrap ((i : Int) + 1) = (i : Int) + 1 := wrap_i64 (by omega) (by omega)
      simp only [lnS, hAt, hb]
      generalize hAt R i = q
      simp (maxSteps := 1000000) [spec_l01New.l0, List.range_succ, bs_get, setAt, h1, h2, h3, hn, e3])
    (fun x => by
      simp only [lnS, lnE]
      generalize hAt R (lnN R) = q
      by_cases c : R.length < 4000
      · have e : lnN R = R.length := by unfold lnN; omega
        rw [e]
        simp (maxSteps := 1000000) [spec_l01New.l0, List.range_succ, bs_get, setAt]
      · have e : lnN R = 4000 := by unfold lnN; omega
        rw [e]
        simp only [Int.cast_ofNat_Int]
        by_cases c2 : 4000 < R.length
        · have c3 : (4000 : Int) < (R.length : Int) := by omega
          simp (maxSteps := 1000000) [spec_l01New.l0, List.range_succ, bs_get, setAt, c2, c3]
        · have c3 : ¬ (4000 : Int) < (R.length : Int) := by omega
          simp (maxSteps := 1000000) [spec_l01New.l0, List.range_succ, bs_get, setAt, c2, c3])
  simp only [lnS, lnE, hAt] at hr
  generalize hAt R (lnN R) = q at *
  simp at hr
  have e : IntKind.i64.wrap (77201 + (R.length : Int)) = 77201 + (R.length : Int) := wrap_i64 (by omega) (by omega)
  simp (maxSteps := 1000000) [exB, spec_l01New.m, spec_l01New.b, List.range_succ, bs_get, setAt, hr, e]
end Mx

/-
  What is drawn: places.
-/
namespace Mx
open Go
variable {M : Nat → Option Body}
/-- a loop whose rounds are told by an invariant alone -/
theorem loop_ex {σ : Type} {f : St → Option (Out × St)} (S : σ → St) (Inv : σ → Prop) (μ : σ → Nat) (Post : Out × St → Prop)
    (h : ∀ s, Inv s → (∃ s', f (S s) = some (.normal, S s') ∧ Inv s' ∧ μ s' < μ s) ∨ (∃ r, f (S s) = some r ∧ r.1 ≠ .normal ∧ Post r)) :
    ∀ m s, Inv s → μ s < m → ∃ r, loopN f m (S s) = some r ∧ Post r
  | 0, s, _, hm => by omega
  | m + 1, s, hi, hm => by
    rcases h s hi with ⟨s', h1, h2, h3⟩ | ⟨⟨o, r⟩, h1, h2, h3⟩
    · obtain ⟨r, q1, q2⟩ := loop_ex S Inv μ Post h m s' h2 (by omega)
      exact ⟨r, by simp only [loopN, h1]; exact q1, q2⟩
    · refine ⟨(o, r), ?_, h3⟩
      simp only [loopN, h1]
      cases o with
      | normal => exact (h2 rfl).elim
      | _ => rfl
structure PlS where
  i : Nat
  rows : List (List T)
  v : Nat
  vc : Nat
  ic : Nat
  q : Int
  n : Nat
theorem PlS.ex {p : PlS → Prop} : (∃ s, p s) ↔ ∃ i rows v vc ic q n, p ⟨i, rows, v, vc, ic, q, n⟩ := ⟨fun ⟨⟨i, rows, v, vc, ic, q, n⟩, h⟩ => ⟨i, rows, v, vc, ic, q, n, h⟩, fun ⟨i, rows, v, vc, ic, q, n, h⟩ => ⟨⟨i, rows, v, vc, ic, q, n⟩, h⟩⟩
def plO (R : List (List T)) (s : PlS) : List (Nat × Ob) := [(10, ⟨s.v, 1, true, false, s.rows⟩), (10700, ⟨s.vc, 3, true, true, [[.sl false 1 R, I s.ic, I s.q]]⟩)]
def plS (R : List (List T)) (s : PlS) : St := { t := [(3, .c (.ptr 10700 s.vc 0 0)), (4, .c (.row 10 s.v 0 s.i)), (5, .c (I s.i))], o := plO R s, n := s.n }
def plE (R : List (List T)) (s : PlS) : St := { t := [(3, .c (.ptr 10700 s.vc 0 0)), (4, .c (.row 10 s.v 0 s.i)), (5, .c (I s.i)), (12, .c (.bool false))], o := plO R s, n := s.n }
structure PlI (R : List (List T)) (s : PlS) : Prop where
  i : s.i ≤ 12
  l : s.rows.length = s.i
  r : ∀ r ∈ s.rows, ∃ x : Nat, x < 10000 ∧ r = [I x]
  c : s.ic ≤ R.length
theorem pl_turn (hb : spec_l01Below.k M) {R : List (List T)} (hR : Bytes R) (k : Nat) (s : PlS) (hs : PlI R s) :
    (∃ s', exC (run M) k spec_DrawPlaces.l0 (plS R s) = some (.normal, plS R s') ∧ PlI R s' ∧ 12 - s'.i < 12 - s.i) ∨
      (∃ r, exC (run M) k spec_DrawPlaces.l0 (plS R s) = some r ∧ r.1 ≠ .normal ∧ ∃ s', r = (.exit 0, plE R s') ∧ s'.i = 12 ∧ PlI R s') := by
  obtain ⟨i, rows, v, vc, ic, q, n⟩ := s
  obtain ⟨hi, hl, hr, hc⟩ := hs
  simp only at hi hl hr hc
  obtain ⟨x, ic', q', hx, hic, h1⟩ := spec_l01Below.says hb hR ic q hc 10000 (by omega) (by omega)
  simp only [Int.cast_ofNat_Int] at h1
  by_cases hlt : i < 12
  · left
    have hlt2 : (i : Int) < 12 := by omega
    have e3 : IntKind.i64.wrap ((i : Int) + 1) = (i : Int) + 1 := wrap_i64 (by omega) (by omega)
    have e4 : rows.take i = rows := List.take_of_length_le (by omega)
    have e5 : i + 1 ≤ 4294967296 := by omega
    have e6 : i ≤ rows.length := by omega
    have hh : ∃ v' n', exC (run M) k spec_DrawPlaces.l0 (plS R ⟨i, rows, v, vc, ic, q, n⟩) = some (.normal, plS R ⟨i + 1, rows ++ [[I x]], v', vc, ic', q', n'⟩) := by
      simp only [plS, plO]
      simp (maxSteps := 1000000) [spec_DrawPlaces.l0, List.range_succ, bs_get, setAt, h1, hl, hlt, hlt2, e3, e4, e5, e6]
    obtain ⟨v', n', hh⟩ := hh
    refine ⟨_, hh, ⟨by simp only; omega, by simp [hl], fun r hr' => ?_, hic⟩, by simp only; omega⟩
    rcases List.mem_append.1 hr' with h | h
    · exact hr r h
    · simp only [List.mem_singleton] at h
      exact ⟨x, hx, h⟩
  · right
    have hlt2 : ¬ (i : Int) < 12 := by omega
    refine ⟨(.exit 0, plE R ⟨i, rows, v, vc, ic, q, n + 32⟩), ?_, by simp, ⟨i, rows, v, vc, ic, q, n + 32⟩, rfl, by simp only; omega, ⟨hi, hl, hr, hc⟩⟩
    simp only [plS, plE, plO]
    simp (maxSteps := 1000000) [spec_DrawPlaces.l0, List.range_succ, bs_get, setAt, hlt, hlt2]
theorem spec_DrawPlaces.says (h : spec_DrawPlaces.k M) {R : List (List T)} (hR : Bytes R) :
    ∃ rows : List (List T), rows.length = 12 ∧ (∀ r ∈ rows, ∃ x : Nat, x < 10000 ∧ r = [I x]) ∧ run M 40 [.c (.sl false 1 R)] [] = some (.c (.sl true 1 rows), []) := by
  obtain ⟨h0, k1, k2, k3⟩ := h
  obtain ⟨q0, h1⟩ := spec_l01New.says k1 hR
  obtain ⟨x, ic, q, hx, hic, h2⟩ := spec_l01Byte.says k3 hR 0 q0 (Nat.zero_le _)
  obtain ⟨r, hr, ⟨⟨i, rows, v, vc, ic', q', n⟩, rfl, hi, hI⟩⟩ := loop_ex (f := exC (run M) 13 spec_DrawPlaces.l0) (plS R) (PlI R) (fun s => 12 - s.i) (fun r => ∃ s', r = (.exit 0, plE R s') ∧ s'.i = 12 ∧ PlI R s')
    (fun s hs => pl_turn k2 hR 13 s hs) 13 ⟨0, [], 2000096, 2000032, ic, q, 2000144⟩ ⟨by simp, by simp, by simp, hic⟩ (by simp)
  obtain ⟨_, hl, hr', _⟩ := hI
  simp only at hi hl hr'
  refine ⟨rows, by omega, hr', run_code (b := spec_DrawPlaces.m) h0 ⟨13, ?_⟩⟩
  have e : rows.take i = rows := List.take_of_length_le (by omega)
  have e2 : i ≤ rows.length := by omega
  simp only [plS, plE, plO] at hr
  simp at hr
  have e0 : ((0 : Nat) : Int) = 0 := rfl
  simp only [curD, e0] at h2
  simp (maxSteps := 1000000) [exB, spec_DrawPlaces.m, spec_DrawPlaces.b, List.range_succ, bs_get, setAt, hr, h1, h2, e, e2]
end Mx

/-
  What the two KeepsUid answer, and their law.
-/
namespace Mx
open Go
variable {M : Nat → Option Body}
def uidAt (l : List Mail) (i : Nat) : Int := match l[i]? with | some m => m.uid | none => 0
def keepsUid (a b : Box) (g : Int) : Bool := match mailO a.mails g with
  | none => false
  | some i => match mailO b.mails g with
    | some k => decide (uidAt a.mails i = uidAt b.mails k)
    | none => decide (b.next ≤ uidAt a.mails i)
theorem spec_KeepsUid.says (h : spec_KeepsUid.k M) (a b : Box) (g : Int) (ha : a.mails.length ≤ 1048576) (hb : b.mails.length ≤ 1048576) : run M 22 [.a (encBox a), .a (encBox b), .c (I g)] [] = some (.c (.bool (keepsUid a b g)), []) := by
  have h1 := spec_MailAt.says h.2 a g ha
  have h2 := spec_MailAt.says h.2 b g hb
  refine run_code (b := spec_KeepsUid.m) h.1 ⟨0, ?_⟩
  simp only [encBox] at h1 h2
  unfold keepsUid
  cases hi : mailO a.mails g with
  | none =>
    simp [hi, intO] at h1
    simp [exB, spec_KeepsUid.m, spec_KeepsUid.b, List.range_succ, h1]
  | some i =>
    have li := atO_lt _ _ _ _ _ hi
    simp [hi, intO] at h1
    have di : ¬ (i : Int) < 0 := by omega
    have ui : uidAt a.mails i = a.mails[i].uid := by simp [uidAt, li]
    cases hk : mailO b.mails g with
    | none =>
      simp [hk, intO] at h2
      simp [exB, spec_KeepsUid.m, spec_KeepsUid.b, List.range_succ, h1, h2, di, li, ui, encMail]
    | some k =>
      have lk := atO_lt _ _ _ _ _ hk
      have uk : uidAt b.mails k = b.mails[k].uid := by simp [uidAt, lk]
      simp [hk, intO] at h2
      simp [exB, spec_KeepsUid.m, spec_KeepsUid.b, List.range_succ, h1, h2, di, li, ui, lk, uk, encMail]
theorem impl_KeepsUid.says (h : impl_KeepsUid.k M) (a b : Box) (g : Int) (ha : a.mails.length ≤ 1048576) (hb : b.mails.length ≤ 1048576) : run M 23 [.a (encBox a), .a (encBox b), .c (I g)] [] = some (.c (.bool (keepsUid a b g)), []) := by
  have h1 := impl_MailAt.says h.2 a g ha
  have h2 := impl_MailAt.says h.2 b g hb
  refine run_code (b := impl_KeepsUid.m) h.1 ⟨0, ?_⟩
  simp only [encBox] at h1 h2
  unfold keepsUid
  cases hi : mailO a.mails g with
  | none =>
    simp [hi, intO] at h1
    simp [exB, impl_KeepsUid.m, impl_KeepsUid.b, List.range_succ, h1, h2]
  | some i =>
    have li := atO_lt _ _ _ _ _ hi
    simp [hi, intO] at h1
    have di : ¬ (i : Int) < 0 := by omega
    have ui : uidAt a.mails i = a.mails[i].uid := by simp [uidAt, li]
    cases hk : mailO b.mails g with
    | none =>
      simp [hk, intO] at h2
      simp [exB, impl_KeepsUid.m, impl_KeepsUid.b, List.range_succ, h1, h2, di, li, ui, encMail]
    | some k =>
      have lk := atO_lt _ _ _ _ _ hk
      have uk : uidAt b.mails k = b.mails[k].uid := by simp [uidAt, lk]
      simp [hk, intO] at h2
      by_cases c : a.mails[i].uid = b.mails[k].uid
      · simp [exB, impl_KeepsUid.m, impl_KeepsUid.b, List.range_succ, h1, h2, di, li, ui, lk, uk, encMail, c]
      · have c' : ¬ b.mails[k].uid = a.mails[i].uid := fun q => c q.symm
        simp [exB, impl_KeepsUid.m, impl_KeepsUid.b, List.range_succ, h1, h2, di, li, ui, lk, uk, encMail, c, c']
theorem laws_FnExactKeepsUid.says (h : laws_FnExactKeepsUid.k M) (a b : Box) (g : Int) (ha : BoxFits a) (hb : BoxFits b) : run M 366 [.a (encBox a), .a (encBox b), .c (I g)] [] = some (.c (.bool true), []) := by
  obtain ⟨h0, k1, k2, k3, k4, k5⟩ := h
  have h1 := laws_szBox.says k1 a ha 1048576 (by omega)
  refine run_code (b := laws_FnExactKeepsUid.m) h0 ⟨0, ?_⟩
  by_cases c : 1048576 < wBox a
  · rw [if_pos c] at h1
    simp only [Int.cast_ofNat_Int] at h1
    simp [exB, laws_FnExactKeepsUid.m, laws_FnExactKeepsUid.b, List.range_succ, h1]
  rw [if_neg c] at h1
  simp only [Int.cast_ofNat_Int] at h1
  have hw : wBox a ≤ 1048576 := by omega
  have e1 : ¬ (1048576 : Int) - wBox a < 0 := by omega
  have h1' := laws_szBox.says k1 b hb (1048576 - wBox a) (by omega)
  rw [show ((1048576 - wBox a : Nat) : Int) = 1048576 - (wBox a : Int) by omega] at h1'
  by_cases c2 : 1048576 - wBox a < wBox b
  · rw [if_pos c2] at h1'
    simp only [encBox] at h1 h1'
    simp [exB, laws_FnExactKeepsUid.m, laws_FnExactKeepsUid.b, List.range_succ, h1, h1', e1]
  rw [if_neg c2] at h1'
  have hw2 : wBox b ≤ 1048576 := by omega
  have e2 : ¬ (1048576 : Int) - wBox a - wBox b < 0 := by omega
  have h2 := laws_toBox.says k2 a hw
  have h2' := laws_toBox.says k2 b hw2
  have h3 := spec_KeepsUid.says k4 a b g (wBox_mails hw) (wBox_mails hw2)
  have h4 := impl_KeepsUid.says k5 a b g (wBox_mails hw) (wBox_mails hw2)
  have h5 := laws_eqBox.says k3 a hw
  have h5' := laws_eqBox.says k3 b hw2
  simp only [encBox, encBoxO] at h1 h1' h2 h2' h3 h4 h5 h5'
  simp (maxSteps := 1000000) [exB, laws_FnExactKeepsUid.m, laws_FnExactKeepsUid.b, List.range_succ, h1, h1', h2, h2', h3, h4, h5, h5', e1, e2, setAt, List.take_of_length_le]
theorem laws_FnExactKeepsUid.row (h : laws_FnExactKeepsUid.k M) {as : List V} (ha : HasVs [.struct ctBox, .struct ctBox, .cell (.int .i64)] as) : run M 366 as [] = some (.c (.bool true), []) := by
  cases ha with | cons h0 ha =>
  cases ha with | cons h1 ha =>
  cases ha with | cons h2 ha =>
  cases ha
  cases h0 with | struct h0 =>
  cases h1 with | struct h1 =>
  cases h2 with | cell h2 =>
  obtain ⟨a, rfl, ha⟩ := has_box h0
  obtain ⟨b, rfl, hb⟩ := has_box h1
  obtain ⟨g, rfl⟩ := has_int h2
  exact laws_FnExactKeepsUid.says h a b g ha hb
end Mx

/-
  What two boxes come to, in plain lists: this side's way and the other's.
-/
namespace Mx
open Go
/-! ## sorting by a key, the first of equals first -/
def insBy {α : Type} (k : α → Int) (acc : List α) (m : α) : List α := acc.filter (fun x => decide (k x ≤ k m)) ++ [m] ++ acc.filter (fun x => decide (k m < k x))
def sortBy {α : Type} (k : α → Int) (l : List α) : List α := l.foldl (insBy k) []
abbrev SortedBy {α : Type} (k : α → Int) (l : List α) : Prop := l.Pairwise fun x y => k x ≤ k y
theorem insBy_mem {α : Type} {k : α → Int} {acc : List α} {m z : α} : z ∈ insBy k acc m ↔ z = m ∨ z ∈ acc := by
  simp only [insBy, List.mem_append, List.mem_filter, decide_eq_true_eq, List.mem_singleton]
  constructor
  · rintro ((⟨h, _⟩ | h) | ⟨h, _⟩)
    · exact .inr h
    · exact .inl h
    · exact .inr h
  · rintro (h | h)
    · exact .inl (.inr h)
    · by_cases c : k z ≤ k m
      · exact .inl (.inl ⟨h, c⟩)
      · exact .inr ⟨h, by omega⟩
theorem insBy_sorted {α : Type} {k : α → Int} {acc : List α} {m : α} (h : SortedBy k acc) : SortedBy k (insBy k acc m) := by
  simp only [insBy, SortedBy, List.pairwise_append, List.pairwise_singleton, List.mem_filter, decide_eq_true_eq, List.mem_singleton, List.mem_append]
  refine ⟨⟨h.filter _, trivial, ?_⟩, h.filter _, ?_⟩
  · rintro a ⟨_, ha⟩ b rfl; exact ha
  · rintro a (⟨_, ha⟩ | rfl) b ⟨_, hb⟩ <;> omega
theorem insBy_perm {α : Type} {k : α → Int} (acc : List α) (m : α) : (insBy k acc m).Perm (m :: acc) := by
  have : ∀ l : List α, (l.filter (fun x => decide (k x ≤ k m)) ++ l.filter (fun x => decide (k m < k x))).Perm l := by
    intro l
    have h := List.filter_append_perm (fun x => decide (k x ≤ k m)) l
    have e : (fun x => !decide (k x ≤ k m)) = fun x => decide (k m < k x) := by
      funext x; rw [Bool.eq_iff_iff]; simp
    rwa [e] at h
  refine List.Perm.trans ?_ ((this acc).cons m)
  unfold insBy
  rw [List.append_assoc]
  exact List.perm_middle
theorem foldBy_perm {α : Type} {k : α → Int} : ∀ (l acc : List α), (l.foldl (insBy k) acc).Perm (l ++ acc)
  | [], acc => List.Perm.refl _
  | x :: l, acc => by
    refine (foldBy_perm l (insBy k acc x)).trans ?_
    refine ((insBy_perm acc x).append_left l).trans ?_
    exact List.perm_middle
theorem foldBy_sorted {α : Type} {k : α → Int} : ∀ (l acc : List α), SortedBy k acc → SortedBy k (l.foldl (insBy k) acc)
  | [], acc, h => h
  | x :: l, acc, h => foldBy_sorted l _ (insBy_sorted h)
theorem sortBy_perm {α : Type} {k : α → Int} (l : List α) : (sortBy k l).Perm l := by unfold sortBy; simpa using foldBy_perm (k := k) l []
theorem sortBy_sorted {α : Type} {k : α → Int} (l : List α) : SortedBy k (sortBy k l) := foldBy_sorted l [] List.Pairwise.nil
theorem sortBy_mem {α : Type} {k : α → Int} {l : List α} {z : α} : z ∈ sortBy k l ↔ z ∈ l := (sortBy_perm l).mem_iff
theorem sortBy_len {α : Type} {k : α → Int} (l : List α) : (sortBy k l).length = l.length := (sortBy_perm l).length_eq
/-- ascending by a key, and the same things: the same -/
abbrev AscBy {α : Type} (k : α → Int) (l : List α) : Prop := l.Pairwise fun x y => k x < k y
theorem ascBy_ext {α : Type} {k : α → Int} : ∀ {a b : List α}, AscBy k a → AscBy k b → (∀ x, x ∈ a ↔ x ∈ b) → a = b
  | [], [], _, _, _ => rfl
  | [], y :: b, _, _, h => absurd ((h y).2 (List.mem_cons_self ..)) (by simp)
  | x :: a, [], _, _, h => absurd ((h x).1 (List.mem_cons_self ..)) (by simp)
  | x :: a, y :: b, ha, hb, h => by
    obtain ⟨ha1, ha2⟩ := List.pairwise_cons.1 ha
    obtain ⟨hb1, hb2⟩ := List.pairwise_cons.1 hb
    have e : x = y := by
      rcases List.mem_cons.1 ((h x).1 (List.mem_cons_self ..)) with q | q
      · exact q
      · rcases List.mem_cons.1 ((h y).2 (List.mem_cons_self ..)) with q' | q'
        · exact q'.symm
        · have := ha1 y q'; have := hb1 x q; omega
    subst e
    congr 1
    refine ascBy_ext ha2 hb2 fun z => ⟨fun hz => ?_, fun hz => ?_⟩
    · rcases List.mem_cons.1 ((h z).1 (List.mem_cons_of_mem _ hz)) with q | q
      · have := ha1 z hz; rw [q] at this; omega
      · exact q
    · rcases List.mem_cons.1 ((h z).2 (List.mem_cons_of_mem _ hz)) with q | q
      · have := hb1 z hz; rw [q] at this; omega
      · exact q
theorem asc_of_sorted {α : Type} {k : α → Int} : ∀ {l : List α}, SortedBy k l → (l.map k).Nodup → AscBy k l
  | [], _, _ => List.Pairwise.nil
  | x :: l, h, hn => by
    obtain ⟨h1, h2⟩ := List.pairwise_cons.1 h
    rw [List.map_cons, List.nodup_cons] at hn
    refine List.pairwise_cons.2 ⟨fun y hy => ?_, asc_of_sorted h2 hn.2⟩
    have := h1 y hy
    have : k x ≠ k y := fun e => hn.1 (by rw [e]; exact List.mem_map_of_mem hy)
    omega

/-! ## registers, flags, mails -/
def later (t w u x : Int) : Bool := decide (u < t) || (decide (t = u) && decide (x < w))
def joinReg (a b : Reg) : Reg := if later b.time b.who a.time a.who = true ∨ later a.time a.who b.time b.who = false ∧ a.val < b.val then b else a
def joinFlags (a b : List Reg) : List Reg := List.zipWith joinReg a b
def maxT (a b : List UInt8) : List UInt8 := if bless a b = true then b else a
def joinMail (a b : Mail) : Mail := if a.gid = b.gid then ⟨a.gid, Max.max a.uid b.uid, joinFlags a.flags b.flags, maxT a.text b.text⟩ else a
def mailIn (l : List Mail) (g : Int) : Option Mail := l.find? fun m => decide (m.gid = g)
theorem mailIn_some {l : List Mail} {g : Int} {m : Mail} (h : mailIn l g = some m) : m ∈ l ∧ m.gid = g := ⟨List.mem_of_find?_eq_some h, by simpa using List.find?_some h⟩
theorem mailIn_none {l : List Mail} {g : Int} : mailIn l g = none ↔ ∀ m ∈ l, m.gid ≠ g := by
  unfold mailIn; rw [List.find?_eq_none]; simp
theorem mailIn_mem {l : List Mail} (h : (l.map (·.gid)).Nodup) {m : Mail} (hm : m ∈ l) : mailIn l m.gid = some m := by
  induction l with
  | nil => simp at hm
  | cons x l ih =>
    rw [List.map_cons, List.nodup_cons] at h
    unfold mailIn at ih ⊢
    rw [List.find?_cons]
    rcases List.mem_cons.1 hm with rfl | hm
    · simp
    · have : x.gid ≠ m.gid := fun e => h.1 (by rw [e]; exact List.mem_map_of_mem hm)
      simp only [this, decide_false]
      exact ih h.2 hm
/-! ## boxes -/
def gids (l : List Mail) : List Int := l.map (·.gid)
def joinM (a b : List Mail) (g : Int) : Mail := match mailIn a g, mailIn b g with
  | some x, some y => joinMail x y
  | some x, none => x
  | none, some y => y
  | none, none => ⟨0, 0, [], []⟩
def needs (a b : Box) (g : Int) : Bool := (holds a g && !keepsUid a b g) || (holds b g && !keepsUid b a g)
def stepJ (a b : Box) (s : List Mail × Int) (g : Int) : List Mail × Int :=
  if g ∈ a.gone ∨ g ∈ b.gone then s else
  if needs a b g = true then (insBy (·.uid) s.1 { joinM a.mails b.mails g with uid := s.2 }, s.2 + 1) else (insBy (·.uid) s.1 (joinM a.mails b.mails g), s.2)
/-- the other side's way -/
def joinedS (a b : Box) : List Mail × Int := (joinGone (gids a.mails) (gids b.mails)).foldl (stepJ a b) ([], Max.max a.next b.next)
/-- this side's way -/
def allM (a b : List Mail) : List Mail := a.map (fun m => match mailIn b m.gid with | some y => joinMail m y | none => m) ++ b.filter (fun m => (mailIn a m.gid).isNone)
def assignU (need : Int → Bool) : Int → List Mail → List Mail × Int
  | n, [] => ([], n)
  | n, m :: l => if need m.gid = true then ({ m with uid := n } :: (assignU need (n + 1) l).1, (assignU need (n + 1) l).2) else (m :: (assignU need n l).1, (assignU need n l).2)
def joinedI (a b : Box) : List Mail × Int :=
  let l := assignU (needs a b) (Max.max a.next b.next) (sortBy (·.gid) ((allM a.mails b.mails).filter fun m => !decide (m.gid ∈ joinGone a.gone b.gone)))
  (sortBy (·.uid) l.1, l.2)
theorem joinMail_gid (a b : Mail) : (joinMail a b).gid = a.gid := by unfold joinMail; split <;> rfl
theorem joinM_gid {a b : List Mail} {g : Int} (h : g ∈ gids a ∨ g ∈ gids b) : (joinM a b g).gid = g := by
  unfold joinM
  cases h1 : mailIn a g with
  | some x =>
    cases h2 : mailIn b g with
    | some y => simp only [joinMail_gid]; exact (mailIn_some h1).2
    | none => exact (mailIn_some h1).2
  | none =>
    cases h2 : mailIn b g with
    | some y => exact (mailIn_some h2).2
    | none =>
      exfalso
      rw [mailIn_none] at h1 h2
      rcases h with h | h
      · obtain ⟨m, hm, e⟩ := List.mem_map.1 h; exact h1 m hm e
      · obtain ⟨m, hm, e⟩ := List.mem_map.1 h; exact h2 m hm e
theorem allM_mem {a b : List Mail} (ha : (gids a).Nodup) (hb : (gids b).Nodup) {m : Mail} : m ∈ allM a b ↔ (m.gid ∈ gids a ∨ m.gid ∈ gids b) ∧ m = joinM a b m.gid := by
  simp only [allM, List.mem_append, List.mem_map, List.mem_filter]
  constructor
  · rintro (⟨x, hx, rfl⟩ | ⟨hm, hn⟩)
    · have h1 := mailIn_mem ha hx
      have hg : x.gid ∈ gids a := List.mem_map_of_mem hx
      cases h2 : mailIn b x.gid with
      | some y =>
        simp only [joinMail_gid]
        refine ⟨.inl hg, ?_⟩
        simp only [joinM, h1, h2]
      | none =>
        simp only
        refine ⟨.inl hg, ?_⟩
        simp only [joinM, h1, h2]
    · have h1 := mailIn_mem hb hm
      simp only [Option.isNone_iff_eq_none] at hn
      refine ⟨.inr (List.mem_map_of_mem hm), ?_⟩
      simp only [joinM, h1, hn]
  · rintro ⟨h, e⟩
    cases h1 : mailIn a m.gid with
    | some x =>
      left
      obtain ⟨k1, k2⟩ := mailIn_some h1
      refine ⟨x, k1, ?_⟩
      rw [e, k2]
      simp only [joinM, h1]
      cases h2 : mailIn b m.gid <;> rfl
    | none =>
      right
      cases h2 : mailIn b m.gid with
      | none =>
        exfalso
        rw [mailIn_none] at h1 h2
        rcases h with h | h
        · obtain ⟨m', hm, e⟩ := List.mem_map.1 h; exact h1 m' hm e
        · obtain ⟨m', hm, e⟩ := List.mem_map.1 h; exact h2 m' hm e
      | some y =>
        refine ⟨?_, by simp⟩
        have : m = y := by rw [e]; simp only [joinM, h1, h2]
        rw [this]; exact (mailIn_some h2).1
theorem allM_nodup {a b : List Mail} (ha : (gids a).Nodup) (hb : (gids b).Nodup) : (gids (allM a b)).Nodup := by
  have e1 : gids (a.map (fun m => match mailIn b m.gid with | some y => joinMail m y | none => m)) = gids a := by
    unfold gids; rw [List.map_map]
    apply List.map_congr_left
    intro m _
    simp only [Function.comp]
    split
    · exact joinMail_gid _ _
    · rfl
  unfold allM
  rw [gids, List.map_append]
  change (gids _ ++ gids _).Nodup
  rw [e1, List.nodup_append]
  refine ⟨ha, ?_, ?_⟩
  · exact hb.sublist (List.Sublist.map _ List.filter_sublist)
  · intro x hx y hy e
    subst e
    obtain ⟨m, hm, rfl⟩ := List.mem_map.1 hy
    rw [List.mem_filter] at hm
    simp only [Option.isNone_iff_eq_none, mailIn_none] at hm
    obtain ⟨m', hm', e⟩ := List.mem_map.1 hx
    exact hm.2 m' hm' e
theorem srt_eq {a b : Box} (ha : (gids a.mails).Nodup) (hb : (gids b.mails).Nodup) :
    sortBy (·.gid) ((allM a.mails b.mails).filter fun m => !decide (m.gid ∈ joinGone a.gone b.gone)) = ((joinGone (gids a.mails) (gids b.mails)).filter fun g => !decide (g ∈ joinGone a.gone b.gone)).map (joinM a.mails b.mails) := by
  refine ascBy_ext (k := fun m : Mail => m.gid) ?_ ?_ fun m => ?_
  · refine asc_of_sorted (sortBy_sorted _) ?_
    have hp := (sortBy_perm (k := fun m : Mail => m.gid) ((allM a.mails b.mails).filter fun m => !decide (m.gid ∈ joinGone a.gone b.gone))).map (fun m : Mail => m.gid)
    rw [hp.nodup_iff]
    exact (allM_nodup ha hb).sublist (List.Sublist.map _ List.filter_sublist)
  · rw [AscBy, List.pairwise_map]
    have h := (joinGone_asc (gids a.mails) (gids b.mails)).filter (fun g => !decide (g ∈ joinGone a.gone b.gone))
    refine List.Pairwise.imp_of_mem ?_ h
    intro x y hx hy hxy
    rw [List.mem_filter, joinGone_mem] at hx hy
    rw [joinM_gid hx.1, joinM_gid hy.1]
    exact hxy
  · rw [sortBy_mem, List.mem_filter, allM_mem ha hb, List.mem_map]
    constructor
    · rintro ⟨⟨h1, h2⟩, h3⟩
      exact ⟨m.gid, List.mem_filter.2 ⟨(joinGone_mem _ _ _).2 h1, h3⟩, h2.symm⟩
    · rintro ⟨g, hg, rfl⟩
      rw [List.mem_filter, joinGone_mem] at hg
      have := joinM_gid hg.1
      rw [this]
      exact ⟨⟨hg.1, rfl⟩, hg.2⟩
theorem fold_assign (a b : Box) : ∀ (gs : List Int) (acc : List Mail) (n : Int), (∀ g ∈ gs, g ∈ gids a.mails ∨ g ∈ gids b.mails) →
    gs.foldl (stepJ a b) (acc, n) = ((assignU (needs a b) n ((gs.filter fun g => !decide (g ∈ joinGone a.gone b.gone)).map (joinM a.mails b.mails))).1.foldl (insBy (·.uid)) acc, (assignU (needs a b) n ((gs.filter fun g => !decide (g ∈ joinGone a.gone b.gone)).map (joinM a.mails b.mails))).2)
  | [], acc, n, _ => by simp [assignU]
  | g :: gs, acc, n, h => by
    have ih := fun acc n => fold_assign a b gs acc n fun g hg => h g (List.mem_cons_of_mem _ hg)
    have hg := joinM_gid (h g (List.mem_cons_self ..))
    rw [List.foldl_cons, stepJ, List.filter_cons]
    by_cases c : g ∈ a.gone ∨ g ∈ b.gone
    · have c' : g ∈ joinGone a.gone b.gone := (joinGone_mem _ _ _).2 c
      rw [if_pos c, ih]
      simp [c']
    · have c' : ¬ g ∈ joinGone a.gone b.gone := fun q => c ((joinGone_mem _ _ _).1 q)
      rw [if_neg c]
      simp only [c', decide_false, Bool.not_false, if_true, List.map_cons, assignU, hg]
      by_cases c2 : needs a b g = true
      · rw [if_pos c2, if_pos c2, ih]; rfl
      · rw [if_neg c2, if_neg c2, ih]; rfl
theorem joined_eq {a b : Box} (ha : (gids a.mails).Nodup) (hb : (gids b.mails).Nodup) : joinedI a b = joinedS a b := by
  unfold joinedI joinedS
  rw [srt_eq ha hb, fold_assign a b _ _ _ fun g hg => (joinGone_mem _ _ _).1 hg]
  rfl
/-- what two boxes come to -/
def joinBox (a b : Box) : Box := if a.gid = b.gid then
    { gid := a.gid, name := if later b.time b.who a.time a.who = true ∨ later a.time a.who b.time b.who = false ∧ bless a.name b.name = true then b.name else a.name,
      time := if later b.time b.who a.time a.who = true ∨ later a.time a.who b.time b.who = false ∧ bless a.name b.name = true then b.time else a.time,
      who := if later b.time b.who a.time a.who = true ∨ later a.time a.who b.time b.who = false ∧ bless a.name b.name = true then b.who else a.who,
      next := (joinedS a b).2, mails := (joinedS a b).1, gone := joinGone a.gone b.gone } else a
end Mx

/-
  What is done in boxes: registers, flags set.
-/
namespace Mx
open Go
variable {M : Nat → Option Body}
theorem impl_Later.says (h : impl_Later.k M) (t w u x : Int) : run M 275 [.a [I t, I w], .a [I u, I x]] [] = some (.c (.bool (later t w u x)), []) := by
  refine run_code (b := impl_Later.m) h ⟨0, ?_⟩
  unfold later
  by_cases c1 : u < t
  · simp (maxSteps := 1000000) [exB, impl_Later.m, impl_Later.b, List.range_succ, bs_get, setAt, c1]
  by_cases c2 : t = u
  · subst c2; simp (maxSteps := 1000000) [exB, impl_Later.m, impl_Later.b, List.range_succ, bs_get, setAt]
  · simp (maxSteps := 1000000) [exB, impl_Later.m, impl_Later.b, List.range_succ, bs_get, setAt, c1, c2]
theorem spec_Later.says (h : spec_Later.k M) (t w u x : Int) : run M 277 [.a [I t, I w], .a [I u, I x]] [] = some (.c (.bool (later t w u x)), []) := by
  refine run_code (b := spec_Later.m) h ⟨0, ?_⟩
  unfold later
  by_cases c2 : t = u
  · subst c2; simp (maxSteps := 1000000) [exB, spec_Later.m, spec_Later.b, List.range_succ, bs_get, setAt]
  · simp (maxSteps := 1000000) [exB, spec_Later.m, spec_Later.b, List.range_succ, bs_get, setAt, c2]
def putReg (r : Reg) (v t w : Int) : Reg := if later t w r.time r.who = true ∧ regOk ⟨v, t, w⟩ = true then ⟨v, t, w⟩ else r
theorem impl_PutReg.says (h : impl_PutReg.k M) (r : Reg) (v t w : Int) : run M 240 [.a (encReg r), .c (I v), .a [I t, I w]] [] = some (.a (encReg (putReg r v t w)), []) := by
  obtain ⟨h0, k1, k2⟩ := h
  have h1 := impl_RegOk.says k1 ⟨v, t, w⟩
  have h2 := impl_Later.says k2 t w r.time r.who
  refine run_code (b := impl_PutReg.m) h0 ⟨0, ?_⟩
  unfold putReg
  simp only [encReg] at h1
  generalize later t w r.time r.who = a at *
  generalize regOk ⟨v, t, w⟩ = b at *
  cases a <;> cases b <;> simp (maxSteps := 1000000) [exB, impl_PutReg.m, impl_PutReg.b, List.range_succ, bs_get, setAt, h1, h2, encReg]
theorem spec_PutReg.says (h : spec_PutReg.k M) (r : Reg) (v t w : Int) : run M 243 [.a (encReg r), .c (I v), .a [I t, I w]] [] = some (.a (encReg (putReg r v t w)), []) := by
  obtain ⟨h0, k1, k2⟩ := h
  have h1 := spec_RegOk.says k1 ⟨v, t, w⟩
  have h2 := spec_Later.says k2 t w r.time r.who
  refine run_code (b := spec_PutReg.m) h0 ⟨0, ?_⟩
  unfold putReg
  simp only [encReg] at h1
  generalize later t w r.time r.who = a at *
  generalize regOk ⟨v, t, w⟩ = b at *
  cases a <;> cases b <;> simp (maxSteps := 1000000) [exB, spec_PutReg.m, spec_PutReg.b, List.range_succ, bs_get, setAt, h1, h2, encReg]
def setFlag (n t w : Int) (i : Nat) (r : Reg) : Reg := if r.val = bitOf n i then r else putReg r (bitOf n i) t w
def setFlags (l : List Reg) (n t w : Int) : List Reg := if flagsOk l = true ∧ inR 0 n 7 = true then l.mapIdx (setFlag n t w) else l
/-- the first k are set -/
def setTo (l : List Reg) (n t w : Int) (k : Nat) : List Reg := l.mapIdx fun i r => if i < k then setFlag n t w i r else r
theorem setTo_zero (l : List Reg) (n t w : Int) : setTo l n t w 0 = l := by
  unfold setTo; simp [List.mapIdx_eq_iff]
theorem setTo_all (l : List Reg) (n t w : Int) : setTo l n t w l.length = l.mapIdx (setFlag n t w) := by
  unfold setTo
  apply List.ext_getElem
  · simp
  · intro i h1 h2; simp at h1 ⊢; intro h; omega
theorem setTo_len (l : List Reg) (n t w : Int) (k : Nat) : (setTo l n t w k).length = l.length := by simp [setTo]
theorem setTo_at (l : List Reg) (n t w : Int) (k : Nat) (h : k < l.length) : (setTo l n t w k)[k]'(by simpa [setTo] using h) = l[k] := by simp [setTo]
theorem setTo_succ (l : List Reg) (n t w : Int) (k : Nat) (h : k < l.length) : setTo l n t w (k + 1) = (setTo l n t w k).set k (setFlag n t w k l[k]) := by
  unfold setTo
  apply List.ext_getElem
  · simp
  · intro i h1 h2
    simp only [List.getElem_mapIdx, List.getElem_set]
    by_cases c : k = i
    · subst c; simp
    · rw [if_neg c]
      by_cases c2 : i < k
      · rw [if_pos c2, if_pos (by omega)]
      · rw [if_neg c2, if_neg (by omega)]
def sgS (l : List Reg) (n t w : Int) (i : Nat) (x : Nat × Nat × Nat) : St := { t := [(1, .c (I n)), (5, .c (.ptr 5 x.1 0 0)), (7, .c (.row 11200 x.2.1 0 l.length)), (22, .c (.row 11200 x.2.1 0 l.length)), (23, .c (I l.length)), (24, .c (I i))], o := [(5, ⟨x.1, 2, true, true, [[I t, I w]]⟩), (11200, ⟨x.2.1, 3, true, false, (setTo l n t w i).map encReg⟩)], n := x.2.2 }
def sgE (l : List Reg) (n t w : Int) (x : Nat × Nat × Nat) : St := { t := [(1, .c (I n)), (5, .c (.ptr 5 x.1 0 0)), (7, .c (.row 11200 x.2.1 0 l.length)), (22, .c (.row 11200 x.2.1 0 l.length)), (23, .c (I l.length)), (24, .c (I l.length)), (25, .c (.bool false))], o := [(5, ⟨x.1, 2, true, true, [[I t, I w]]⟩), (11200, ⟨x.2.1, 3, true, false, (setTo l n t w l.length).map encReg⟩)], n := x.2.2 }
theorem bitOf_range (n : Int) (i : Nat) : 0 ≤ bitOf n i ∧ bitOf n i ≤ 1 := by unfold bitOf; omega
theorem impl_SetFlags.turn (k : impl_PutReg.k M) (l : List Reg) (n t w : Int) (K i : Nat) (hl : l.length = 3) (hi : i < l.length) (x : Nat × Nat × Nat) :
    ∃ y, exC (run M) K impl_SetFlags.l0 (sgS l n t w i x) = some (.normal, sgS l n t w (i + 1) y) := by
  obtain ⟨v, u, x⟩ := x
  have e5 : IntKind.i64.wrap ((i : Int) + 1) = (i : Int) + 1 := wrap_i64 (by omega) (by omega)
  have h1 := impl_PutReg.says k l[i] (bitOf n i) t w
  have hlen : ((setTo l n t w i).map encReg).length = l.length := by simp [setTo_len]
  have hi2 : i < ((setTo l n t w i).map encReg).length := by omega
  have hat : ((setTo l n t w i).map encReg)[i]'hi2 = encReg l[i] := by rw [List.getElem_map, setTo_at]
  have hat2 : ((setTo l n t w i).map encReg)[i]? = some (encReg l[i]) := by rw [List.getElem?_eq_getElem hi2, hat]
  have hset : (setTo l n t w (i + 1)).map encReg = ((setTo l n t w i).map encReg).set i (encReg (setFlag n t w i l[i])) := by rw [setTo_succ _ _ _ _ _ hi, List.map_set]
  have hb := bitOf_range n i
  have hbit : andI .i64 (n.fdiv ((2 ^ i : Nat) : Int)) 1 = bitOf n i := and_one _
  have hmin : Min.min i 64 = i := by omega
  simp only [sgS, hset, setFlag, Prod.exists]
  generalize (setTo l n t w i).map encReg = rr at *
  have hbit2 : andI .i64 (n.fdiv (2 ^ i)) 1 = bitOf n i := by rw [← hbit]; norm_cast
  have hii : (i : Int) < 3 := by omega
  have h3 : i < 3 := by omega
  have hng : ¬ (i : Int) < 0 := by omega
  simp only [encReg] at h1 hat hat2
  by_cases c : l[i].val = bitOf n i
  · rw [if_pos c]
    have hself : rr.set i [I l[i].val, I l[i].time, I l[i].who] = rr := by
      apply List.ext_getElem?
      intro j
      rw [List.getElem?_set]
      split
      · rename_i hj; subst hj; simp [hi2, hat]
      · rfl
    rw [hself]
    simp (maxSteps := 1000000) [impl_SetFlags.l0, List.range_succ, bs_get, setAt, hl, hlen, hat, hat2, e5, hmin, hbit, hbit2, hii, h3, hng, c, encReg, IntKind.bits]
  · rw [if_neg c]
    simp (maxSteps := 1000000) [impl_SetFlags.l0, List.range_succ, bs_get, setAt, hl, hlen, hat, hat2, e5, hmin, hbit, hbit2, hii, h3, hng, c, h1, encReg, IntKind.bits]
end Mx

/-
  What is done in boxes: flags set, mails marked.
-/
namespace Mx
open Go
variable {M : Nat → Option Body}
theorem impl_SetFlags.says (h : impl_SetFlags.k M) (l : List Reg) (n t w : Int) (hl : l.length ≤ 1048576) : run M 182 [.c (regs l), .c (I n), .a [I t, I w]] [] = some (.c (.sl true 3 ((setFlags l n t w).map encReg)), []) := by
  obtain ⟨h0, k1, k2, k3, k4⟩ := h
  have h1 := impl_isFlags.says k1 n
  have h2 := impl_FlagsOk.says k2 l hl
  have h3 := impl_copyRegs.says k3 l hl
  refine run_code (b := impl_SetFlags.m) h0 ⟨4, ?_⟩
  have e7 : (l.map encReg).length = l.length := by simp
  have e8 : (l.map encReg).all (fun r => r.all T.scalar) = true := by simp [T.scalar]
  unfold setFlags
  simp only [regs] at *
  cases c1 : flagsOk l
  · simp only [Bool.false_eq_true, false_and, if_false]
    generalize l.map encReg = r at *
    simp (maxSteps := 1000000) [exB, impl_SetFlags.m, impl_SetFlags.b, List.range_succ, bs_get, setAt, h2, h3, c1, e7, e8, List.take_of_length_le]
  cases c2 : inR 0 n 7
  · simp only [Bool.false_eq_true, and_false, if_false]
    generalize l.map encReg = r at *
    simp (maxSteps := 1000000) [exB, impl_SetFlags.m, impl_SetFlags.b, List.range_succ, bs_get, setAt, h1, h2, h3, c1, c2, e7, e8, List.take_of_length_le]
  have hl3 := (flagsOk_regs c1).1
  obtain ⟨g, hr⟩ := count_loop (f := exC (run M) 4 impl_SetFlags.l0) l.length (sgS l n t w) 0 (sgE l n t w)
    (fun i hi x => impl_SetFlags.turn k4 l n t w 4 i hl3 hi x)
    (fun x => by
      obtain ⟨v, u, x⟩ := x
      simp only [sgS, sgE, Prod.exists]
      generalize (setTo l n t w l.length).map encReg = rr
      simp (maxSteps := 1000000) [impl_SetFlags.l0, List.range_succ, bs_get, setAt])
  have e9 : ((setTo l n t w l.length).map encReg).length = l.length := by simp [setTo_len]
  simp only [true_and, if_true]
  rw [← setTo_all]
  simp only [sgS, sgE, setTo_zero] at hr
  generalize (setTo l n t w l.length).map encReg = rr at *
  generalize l.map encReg = r at *
  simp [hl3] at hr
  simp (maxSteps := 1000000) [exB, impl_SetFlags.m, impl_SetFlags.b, List.range_succ, bs_get, setAt, hr, h1, h2, h3, c1, c2, e7, e8, e9, hl3, List.take_of_length_le]
def shS (l : List Reg) (n t w : Int) (i : Nat) (x : Nat × Nat × Nat) : St := { t := [(1, .c (I n)), (5, .c (.ptr 5 x.1 0 0)), (7, .c (.row 11100 x.2.1 0 l.length)), (8, .c (I i))], o := [(5, ⟨x.1, 2, true, true, [[I t, I w]]⟩), (11100, ⟨x.2.1, 3, true, false, (setTo l n t w i).map encReg⟩)], n := x.2.2 }
def shE (l : List Reg) (n t w : Int) (x : Nat × Nat × Nat) : St := { t := [(1, .c (I n)), (5, .c (.ptr 5 x.1 0 0)), (7, .c (.row 11100 x.2.1 0 l.length)), (8, .c (I l.length)), (24, .c (.bool false))], o := [(5, ⟨x.1, 2, true, true, [[I t, I w]]⟩), (11100, ⟨x.2.1, 3, true, false, (setTo l n t w l.length).map encReg⟩)], n := x.2.2 }
theorem spec_SetFlags.turn (k : spec_PutReg.k M) (l : List Reg) (n t w : Int) (K i : Nat) (hn : 0 ≤ n) (hl : l.length = 3) (hi : i < l.length) (x : Nat × Nat × Nat) :
    ∃ y, exC (run M) K spec_SetFlags.l0 (shS l n t w i x) = some (.normal, shS l n t w (i + 1) y) := by
  obtain ⟨v, u, x⟩ := x
  have e5 : IntKind.i64.wrap ((i : Int) + 1) = (i : Int) + 1 := wrap_i64 (by omega) (by omega)
  have h1 := spec_PutReg.says k l[i] (bitOf n i) t w
  have hlen : ((setTo l n t w i).map encReg).length = l.length := by simp [setTo_len]
  have hi2 : i < ((setTo l n t w i).map encReg).length := by omega
  have hat : ((setTo l n t w i).map encReg)[i]'hi2 = encReg l[i] := by rw [List.getElem_map, setTo_at]
  have hset : (setTo l n t w (i + 1)).map encReg = ((setTo l n t w i).map encReg).set i (encReg (setFlag n t w i l[i])) := by rw [setTo_succ _ _ _ _ _ hi, List.map_set]
  have hmin : Min.min i 64 = i := by omega
  have hu : IntKind.u64.wrap (i : Int) = i := by unfold IntKind.wrap; simp [IntKind.bits, IntKind.signed]; omega
  have hdiv : 0 ≤ n.fdiv ((2 ^ i : Nat) : Int) := Int.fdiv_nonneg hn (Int.natCast_nonneg _)
  have hbit : (n.fdiv ((2 ^ i : Nat) : Int)).tmod 2 = bitOf n i := by
    unfold bitOf; exact Int.tmod_eq_emod_of_nonneg hdiv
  have hbit2 : (n.fdiv (2 ^ i)).tmod 2 = bitOf n i := by rw [← hbit]; norm_cast
  have hii : (i : Int) < 3 := by omega
  have h3 : i < 3 := by omega
  have hng : ¬ (i : Int) < 0 := by omega
  simp only [shS, hset, setFlag, Prod.exists]
  generalize (setTo l n t w i).map encReg = rr at *
  simp only [encReg] at h1 hat
  by_cases c : l[i].val = bitOf n i
  · rw [if_pos c]
    have hself : rr.set i [I l[i].val, I l[i].time, I l[i].who] = rr := by
      apply List.ext_getElem?
      intro j
      rw [List.getElem?_set]
      split
      · rename_i hj; subst hj; simp [hi2, hat]
      · rfl
    rw [hself]
    simp (maxSteps := 1000000) [spec_SetFlags.l0, List.range_succ, bs_get, setAt, hl, hlen, hat, e5, hu, hmin, hbit, hbit2, hii, h3, hng, c, encReg, IntKind.bits]
  · rw [if_neg c]
    simp (maxSteps := 1000000) [spec_SetFlags.l0, List.range_succ, bs_get, setAt, hl, hlen, hat, e5, hu, hmin, hbit, hbit2, hii, h3, hng, c, h1, encReg, IntKind.bits]
theorem spec_SetFlags.says (h : spec_SetFlags.k M) (l : List Reg) (n t w : Int) (hl : l.length ≤ 1048576) : run M 184 [.c (regs l), .c (I n), .a [I t, I w]] [] = some (.c (.sl true 3 ((setFlags l n t w).map encReg)), []) := by
  obtain ⟨h0, k1, k3, k2, k4⟩ := h
  have h1 := spec_l01In.inR k1 n 0 7
  have h2 := spec_FlagsOk.says k2 l hl
  have h3 := spec_l04Copy.says k3 l hl
  refine run_code (b := spec_SetFlags.m) h0 ⟨4, ?_⟩
  have e7 : (l.map encReg).length = l.length := by simp
  have e8 : (l.map encReg).all (fun r => r.all T.scalar) = true := by simp [T.scalar]
  unfold setFlags
  simp only [regs] at *
  cases c1 : flagsOk l
  · simp only [Bool.false_eq_true, false_and, if_false]
    generalize l.map encReg = r at *
    simp (maxSteps := 1000000) [exB, spec_SetFlags.m, spec_SetFlags.b, List.range_succ, bs_get, setAt, h2, h3, c1, e7, e8, List.take_of_length_le]
  cases c2 : inR 0 n 7
  · simp only [Bool.false_eq_true, and_false, if_false]
    generalize l.map encReg = r at *
    simp (maxSteps := 1000000) [exB, spec_SetFlags.m, spec_SetFlags.b, List.range_succ, bs_get, setAt, h1, h2, h3, c1, c2, e7, e8, List.take_of_length_le]
  have hl3 := (flagsOk_regs c1).1
  obtain ⟨g, hr⟩ := count_loop (f := exC (run M) 4 spec_SetFlags.l0) l.length (shS l n t w) 0 (shE l n t w)
    (fun i hi x => spec_SetFlags.turn k4 l n t w 4 i (inR_iff.1 c2).1 hl3 hi x)
    (fun x => by
      obtain ⟨v, u, x⟩ := x
      simp only [shS, shE, Prod.exists]
      generalize (setTo l n t w l.length).map encReg = rr
      simp (maxSteps := 1000000) [spec_SetFlags.l0, List.range_succ, bs_get, setAt])
  have e9 : ((setTo l n t w l.length).map encReg).length = l.length := by simp [setTo_len]
  simp only [true_and, if_true]
  rw [← setTo_all]
  simp only [shS, shE, setTo_zero] at hr
  generalize (setTo l n t w l.length).map encReg = rr at *
  generalize l.map encReg = r at *
  simp [hl3] at hr
  simp (maxSteps := 1000000) [exB, spec_SetFlags.m, spec_SetFlags.b, List.range_succ, bs_get, setAt, hr, h1, h2, h3, c1, c2, e7, e8, e9, hl3, List.take_of_length_le]
end Mx

/-
  What is done in boxes: mails marked, put in.
-/
namespace Mx
open Go
variable {M : Nat → Option Body}
def flagMail (b : Box) (g n t w : Int) : Box × Bool := match mailO b.mails g with
  | none => (b, false)
  | some k => match b.mails[k]? with
    | none => (b, false)
    | some m => if boxOk b = true ∧ inR 0 n 7 = true ∧ stampOk t w = true then ({ b with mails := b.mails.set k { m with flags := setFlags m.flags n t w } }, true) else (b, false)
theorem mailO_lt {l : List Mail} {g : Int} {k : Nat} (h : mailO l g = some k) : k < l.length := atO_lt l g _ _ _ h
set_option maxHeartbeats 1000000 in
theorem impl_FlagMail.says (h : impl_FlagMail.k M) (b : Box) (hb : BoxIn b) (g n t w : Int) : run M 83 [.a (encBox b), .c (I g), .c (I n), .a [I t, I w]] [] = some (.tup [.a (encBoxO (flagMail b g n t w).1), .c (.bool (flagMail b g n t w).2)], []) := by
  obtain ⟨h0, k1, k2, k3, k4, k5, k6⟩ := h
  have h1 := impl_MailAt.says k1 b g hb.m
  have h2 := impl_BoxOk.says k2 b hb.ok.1 hb.ok.2.1 hb.ok.2.2.1 hb.ok.2.2.2
  have h3 := impl_isFlags.says k3 n
  have h4 := impl_copyBox.says k4 b hb
  have h5 := impl_StampOk.says k5 t w
  refine run_code (b := impl_FlagMail.m) h0 ⟨0, ?_⟩
  have e7 : (b.mails.map encMail).length = b.mails.length := by simp
  have e8 := irow_length b.gone
  unfold flagMail
  cases hk : mailO b.mails g with
  | none =>
    rw [hk] at h1
    simp only [intO] at h1
    simp only [encBox, encBoxO, mails, ints] at *
    generalize boxOk b = ok at *
    generalize b.mails.map encMail = rm at *
    generalize irow b.gone = rg at *
    cases ok <;> simp (maxSteps := 1000000) [exB, impl_FlagMail.m, impl_FlagMail.b, List.range_succ, bs_get, setAt, h1, h2, h4, e7, e8, List.take_of_length_le]
  | some k =>
    have hlt := mailO_lt hk
    rw [hk] at h1
    simp only [intO] at h1
    have h6 := impl_SetFlags.says k6 b.mails[k].flags n t w (hb.f _ (List.getElem_mem hlt))
    have hat : (b.mails.map encMail)[k]'(by rw [e7]; exact hlt) = [I b.mails[k].gid, I b.mails[k].uid, regs b.mails[k].flags, S b.mails[k].text] := by rw [List.getElem_map]
    have hset : (b.mails.set k { b.mails[k] with flags := setFlags b.mails[k].flags n t w }).map encMail = (b.mails.map encMail).set k [I b.mails[k].gid, I b.mails[k].uid, .sl false 3 ((setFlags b.mails[k].flags n t w).map encReg), S b.mails[k].text] := by rw [List.map_set]
    have hng : ¬ (k : Int) < 0 := by omega
    simp only [List.getElem?_eq_getElem hlt]
    cases c1 : boxOk b
    · rw [c1] at h2
      simp only [Bool.false_eq_true, false_and, if_false]
      simp only [encBox, encBoxO, mails, ints] at *
      generalize b.mails.map encMail = rm at *
      generalize irow b.gone = rg at *
      simp (maxSteps := 1000000) [exB, impl_FlagMail.m, impl_FlagMail.b, List.range_succ, bs_get, setAt, h1, h2, h4, e7, e8, List.take_of_length_le]
    rw [c1] at h2
    cases c2 : inR 0 n 7
    · rw [c2] at h3
      simp only [Bool.false_eq_true, false_and, and_false, if_false]
      simp only [encBox, encBoxO, mails, ints] at *
      generalize b.mails.map encMail = rm at *
      generalize irow b.gone = rg at *
      simp (maxSteps := 1000000) [exB, impl_FlagMail.m, impl_FlagMail.b, List.range_succ, bs_get, setAt, h1, h2, h3, h4, e7, e8, hng, List.take_of_length_le]
    rw [c2] at h3
    cases c3 : stampOk t w
    · rw [c3] at h5
      simp only [Bool.false_eq_true, and_false, if_false]
      simp only [encBox, encBoxO, mails, ints] at *
      generalize b.mails.map encMail = rm at *
      generalize irow b.gone = rg at *
      simp (maxSteps := 1000000) [exB, impl_FlagMail.m, impl_FlagMail.b, List.range_succ, bs_get, setAt, h1, h2, h3, h4, h5, e7, e8, hng, List.take_of_length_le]
    rw [c3] at h5
    simp only [and_self, if_true]
    simp only [encBox, encBoxO, mails, ints, hset] at *
    generalize b.mails.map encMail = rm at *
    generalize irow b.gone = rg at *
    simp (maxSteps := 1000000) [exB, impl_FlagMail.m, impl_FlagMail.b, List.range_succ, bs_get, setAt, h1, h2, h3, h4, h5, h6, e7, e8, hng, hlt, hat, List.take_of_length_le]
set_option maxHeartbeats 1000000 in
theorem spec_FlagMail.says (h : spec_FlagMail.k M) (b : Box) (hb : BoxIn b) (g n t w : Int) : run M 84 [.a (encBox b), .c (I g), .c (I n), .a [I t, I w]] [] = some (.tup [.a (encBoxO (flagMail b g n t w).1), .c (.bool (flagMail b g n t w).2)], []) := by
  obtain ⟨h0, k2, k1, k3, k4, k5, k6⟩ := h
  have h1 := spec_MailAt.says k1 b g hb.m
  have h2 := spec_BoxOk.says k2 b hb.ok.1 hb.ok.2.1 hb.ok.2.2.1 hb.ok.2.2.2
  have h3 := spec_l01In.inR k3 n 0 7
  have h4 := spec_l06Copy.says k4 b hb
  have h5 := spec_StampOk.says k5 t w
  refine run_code (b := spec_FlagMail.m) h0 ⟨0, ?_⟩
  have e7 : (b.mails.map encMail).length = b.mails.length := by simp
  have e8 := irow_length b.gone
  unfold flagMail
  cases hk : mailO b.mails g with
  | none =>
    rw [hk] at h1
    simp only [intO] at h1
    simp only [encBox, encBoxO, mails, ints] at *
    generalize boxOk b = ok at *
    generalize b.mails.map encMail = rm at *
    generalize irow b.gone = rg at *
    cases ok <;> simp (maxSteps := 1000000) [exB, spec_FlagMail.m, spec_FlagMail.b, List.range_succ, bs_get, setAt, h1, h2, h4, e7, e8, List.take_of_length_le]
  | some k =>
    have hlt := mailO_lt hk
    rw [hk] at h1
    simp only [intO] at h1
    have h6 := spec_SetFlags.says k6 b.mails[k].flags n t w (hb.f _ (List.getElem_mem hlt))
    have hat : (b.mails.map encMail)[k]'(by rw [e7]; exact hlt) = [I b.mails[k].gid, I b.mails[k].uid, regs b.mails[k].flags, S b.mails[k].text] := by rw [List.getElem_map]
    have hset : (b.mails.set k { b.mails[k] with flags := setFlags b.mails[k].flags n t w }).map encMail = (b.mails.map encMail).set k [I b.mails[k].gid, I b.mails[k].uid, .sl false 3 ((setFlags b.mails[k].flags n t w).map encReg), S b.mails[k].text] := by rw [List.map_set]
    have hng : ¬ (k : Int) < 0 := by omega
    simp only [List.getElem?_eq_getElem hlt]
    cases c1 : boxOk b
    · rw [c1] at h2
      simp only [Bool.false_eq_true, false_and, if_false]
      simp only [encBox, encBoxO, mails, ints] at *
      generalize b.mails.map encMail = rm at *
      generalize irow b.gone = rg at *
      simp (maxSteps := 1000000) [exB, spec_FlagMail.m, spec_FlagMail.b, List.range_succ, bs_get, setAt, h1, h2, h4, e7, e8, List.take_of_length_le]
    rw [c1] at h2
    cases c2 : inR 0 n 7
    · rw [c2] at h3
      simp only [Bool.false_eq_true, false_and, and_false, if_false]
      simp only [encBox, encBoxO, mails, ints] at *
      generalize b.mails.map encMail = rm at *
      generalize irow b.gone = rg at *
      simp (maxSteps := 1000000) [exB, spec_FlagMail.m, spec_FlagMail.b, List.range_succ, bs_get, setAt, h1, h2, h3, h4, e7, e8, hng, List.take_of_length_le]
    rw [c2] at h3
    cases c3 : stampOk t w
    · rw [c3] at h5
      simp only [Bool.false_eq_true, and_false, if_false]
      simp only [encBox, encBoxO, mails, ints] at *
      generalize b.mails.map encMail = rm at *
      generalize irow b.gone = rg at *
      simp (maxSteps := 1000000) [exB, spec_FlagMail.m, spec_FlagMail.b, List.range_succ, bs_get, setAt, h1, h2, h3, h4, h5, e7, e8, hng, List.take_of_length_le]
    rw [c3] at h5
    simp only [and_self, if_true]
    simp only [encBox, encBoxO, mails, ints, hset] at *
    generalize b.mails.map encMail = rm at *
    generalize irow b.gone = rg at *
    simp (maxSteps := 1000000) [exB, spec_FlagMail.m, spec_FlagMail.b, List.range_succ, bs_get, setAt, h1, h2, h3, h4, h5, h6, e7, e8, hng, hlt, hat, List.take_of_length_le]
def addMail (b : Box) (g f : Int) (text : List UInt8) (t w : Int) : Box × Bool :=
  if boxOk b = true ∧ mailO b.mails g = none ∧ ¬ g ∈ b.gone ∧ inR 0 f 7 = true ∧ boxOk { b with mails := b.mails ++ [⟨g, b.next, flagsNew f t w, text⟩], next := b.next + 1 } = true
  then ({ b with mails := b.mails ++ [⟨g, b.next, flagsNew f t w, text⟩], next := b.next + 1 }, true) else (b, false)
set_option maxHeartbeats 2000000 in
theorem impl_AddMail.says (h : impl_AddMail.k M) (b : Box) (hb : BoxIn b) (g f : Int) (text : List UInt8) (t w : Int) :
    run M 70 [.a (encBox b), .c (I g), .c (I f), .c (S text), .a [I t, I w]] [] = some (.tup [.a (encBoxO (addMail b g f text t w).1), .c (.bool (addMail b g f text t w).2)], []) := by
  obtain ⟨h0, k1, k2, k3, k4, k5, k6⟩ := h
  have h1 := impl_MailAt.says k1 b g hb.m
  have h2 := impl_BoxOk.says k2 b hb.ok.1 hb.ok.2.1 hb.ok.2.2.1 hb.ok.2.2.2
  have h3 := impl_isFlags.says k3 f
  have h4 := impl_copyBox.says k4 b hb
  have h5 := slices_Contains_int_int.says k5 b.gone g (by have := hb.g; omega)
  have h6 := impl_FlagsNew.says k6 f t w
  refine run_code (b := impl_AddMail.m) h0 ⟨0, ?_⟩
  have e7 : (b.mails.map encMail).length = b.mails.length := by simp
  have e8 := irow_length b.gone
  unfold addMail
  cases c1 : boxOk b
  · rw [c1] at h2
    simp only [Bool.false_eq_true, false_and, if_false]
    simp only [encBox, encBoxO, mails, ints] at *
    generalize b.mails.map encMail = rm at *
    generalize irow b.gone = rg at *
    simp (maxSteps := 1000000) [exB, impl_AddMail.m, impl_AddMail.b, List.range_succ, bs_get, setAt, h2, h4, e7, e8, List.take_of_length_le]
  rw [c1] at h2
  cases hk : mailO b.mails g with
  | some k =>
    have hge : (0 : Int) ≤ k := by omega
    rw [hk] at h1
    simp only [intO] at h1
    simp only [reduceCtorEq, false_and, and_false, if_false]
    simp only [encBox, encBoxO, mails, ints] at *
    generalize b.mails.map encMail = rm at *
    generalize irow b.gone = rg at *
    simp (maxSteps := 1000000) [exB, impl_AddMail.m, impl_AddMail.b, List.range_succ, bs_get, setAt, h1, h2, h4, e7, e8, hge, List.take_of_length_le]
  | none =>
  rw [hk] at h1
  simp only [intO] at h1
  by_cases c2 : g ∈ b.gone
  · rw [decide_eq_true c2] at h5
    simp only [c2, not_true_eq_false, false_and, and_false, if_false]
    simp only [encBox, encBoxO, mails, ints] at *
    generalize b.mails.map encMail = rm at *
    generalize irow b.gone = rg at *
    simp (maxSteps := 1000000) [exB, impl_AddMail.m, impl_AddMail.b, List.range_succ, bs_get, setAt, h1, h2, h4, h5, e7, e8, List.take_of_length_le]
  rw [decide_eq_false c2] at h5
  cases c3 : inR 0 f 7
  · rw [c3] at h3
    simp only [Bool.false_eq_true, false_and, and_false, if_false]
    simp only [encBox, encBoxO, mails, ints] at *
    generalize b.mails.map encMail = rm at *
    generalize irow b.gone = rg at *
    simp (maxSteps := 1000000) [exB, impl_AddMail.m, impl_AddMail.b, List.range_succ, bs_get, setAt, h1, h2, h3, h4, h5, e7, e8, List.take_of_length_le]
  rw [c3] at h3
  have hnx : b.next ≤ 1000000000 ∧ 0 ≤ b.next := by
    have := (boxOk_vars c1).2.2.2.2.1; exact ⟨this.2, this.1⟩
  have hml := (boxOk_vars c1).2.2.2.2.2.1
  have e9 : IntKind.i64.wrap (b.next + 1) = b.next + 1 := wrap_i64 (by omega) (by omega)
  have hout : BoxIn { b with mails := b.mails ++ [⟨g, b.next, flagsNew f t w, text⟩], next := b.next + 1 } := by
    refine ⟨by simp; omega, hb.g, hb.n, fun m hm => ?_⟩
    rcases List.mem_append.1 hm with hm | hm
    · exact hb.f m hm
    · simp only [List.mem_singleton] at hm
      subst hm; simp [flagsNew]
  have h7 := impl_BoxOk.says k2 _ hout.ok.1 hout.ok.2.1 hout.ok.2.2.1 hout.ok.2.2.2
  have e10 : (b.mails ++ [(⟨g, b.next, flagsNew f t w, text⟩ : Mail)]).map encMail = b.mails.map encMail ++ [[I g, I b.next, .sl false 3 ((flagsNew f t w).map encReg), S text]] := by simp
  have e11 : b.mails.length + 1 ≤ 4294967296 := by omega
  simp only [encBox, mails, e10] at h7
  simp only [hk, c2, not_false_eq_true, true_and]
  cases c4 : boxOk { b with mails := b.mails ++ [⟨g, b.next, flagsNew f t w, text⟩], next := b.next + 1 }
  · rw [c4] at h7
    simp only [Bool.false_eq_true, if_false]
    simp only [encBox, encBoxO, mails, ints] at *
    generalize (flagsNew f t w).map encReg = rf at *
    generalize b.mails.map encMail = rm at *
    generalize irow b.gone = rg at *
    simp (maxSteps := 1000000) [exB, impl_AddMail.m, impl_AddMail.b, List.range_succ, bs_get, setAt, h1, h2, h3, h4, h5, h6, h7, e7, e8, e9, e11, List.take_of_length_le]
  · rw [c4] at h7
    simp only [if_true]
    simp only [encBox, encBoxO, mails, ints, e10] at *
    generalize (flagsNew f t w).map encReg = rf at *
    generalize b.mails.map encMail = rm at *
    generalize irow b.gone = rg at *
    simp (maxSteps := 1000000) [exB, impl_AddMail.m, impl_AddMail.b, List.range_succ, bs_get, setAt, h1, h2, h3, h4, h5, h6, h7, e7, e8, e9, e11, List.take_of_length_le]
set_option maxHeartbeats 2000000 in
theorem spec_AddMail.says (h : spec_AddMail.k M) (b : Box) (hb : BoxIn b) (g f : Int) (text : List UInt8) (t w : Int) :
    run M 81 [.a (encBox b), .c (I g), .c (I f), .c (S text), .a [I t, I w]] [] = some (.tup [.a (encBoxO (addMail b g f text t w).1), .c (.bool (addMail b g f text t w).2)], []) := by
  obtain ⟨h0, k2, k1, k3, k5, k4, k6⟩ := h
  have h1 := spec_MailAt.says k1 b g hb.m
  have h2 := spec_BoxOk.says k2 b hb.ok.1 hb.ok.2.1 hb.ok.2.2.1 hb.ok.2.2.2
  have h3 := spec_l01In.inR k3 f 0 7
  have h4 := spec_l06Copy.says k4 b hb
  have h5 := spec_l06In.says k5 b.gone g (by have := hb.g; omega)
  have h6 := spec_FlagsNew.says k6 f t w
  refine run_code (b := spec_AddMail.m) h0 ⟨0, ?_⟩
  have e7 : (b.mails.map encMail).length = b.mails.length := by simp
  have e8 := irow_length b.gone
  unfold addMail
  cases c1 : boxOk b
  · rw [c1] at h2
    simp only [Bool.false_eq_true, false_and, if_false]
    simp only [encBox, encBoxO, mails, ints] at *
    generalize b.mails.map encMail = rm at *
    generalize irow b.gone = rg at *
    simp (maxSteps := 1000000) [exB, spec_AddMail.m, spec_AddMail.b, List.range_succ, bs_get, setAt, h2, h4, e7, e8, List.take_of_length_le]
  rw [c1] at h2
  cases hk : mailO b.mails g with
  | some k =>
    have hge : (0 : Int) ≤ k := by omega
    rw [hk] at h1
    simp only [intO] at h1
    simp only [reduceCtorEq, false_and, and_false, if_false]
    simp only [encBox, encBoxO, mails, ints] at *
    generalize b.mails.map encMail = rm at *
    generalize irow b.gone = rg at *
    simp (maxSteps := 1000000) [exB, spec_AddMail.m, spec_AddMail.b, List.range_succ, bs_get, setAt, h1, h2, h4, e7, e8, hge, List.take_of_length_le]
  | none =>
  rw [hk] at h1
  simp only [intO] at h1
  by_cases c2 : g ∈ b.gone
  · rw [decide_eq_true c2] at h5
    simp only [c2, not_true_eq_false, false_and, and_false, if_false]
    simp only [encBox, encBoxO, mails, ints] at *
    generalize b.mails.map encMail = rm at *
    generalize irow b.gone = rg at *
    simp (maxSteps := 1000000) [exB, spec_AddMail.m, spec_AddMail.b, List.range_succ, bs_get, setAt, h1, h2, h4, h5, e7, e8, List.take_of_length_le]
  rw [decide_eq_false c2] at h5
  cases c3 : inR 0 f 7
  · rw [c3] at h3
    simp only [Bool.false_eq_true, false_and, and_false, if_false]
    simp only [encBox, encBoxO, mails, ints] at *
    generalize b.mails.map encMail = rm at *
    generalize irow b.gone = rg at *
    simp (maxSteps := 1000000) [exB, spec_AddMail.m, spec_AddMail.b, List.range_succ, bs_get, setAt, h1, h2, h3, h4, h5, e7, e8, List.take_of_length_le]
  rw [c3] at h3
  have hnx : b.next ≤ 1000000000 ∧ 0 ≤ b.next := by
    have := (boxOk_vars c1).2.2.2.2.1; exact ⟨this.2, this.1⟩
  have hml := (boxOk_vars c1).2.2.2.2.2.1
  have e9 : IntKind.i64.wrap (b.next + 1) = b.next + 1 := wrap_i64 (by omega) (by omega)
  have hout : BoxIn { b with mails := b.mails ++ [⟨g, b.next, flagsNew f t w, text⟩], next := b.next + 1 } := by
    refine ⟨by simp; omega, hb.g, hb.n, fun m hm => ?_⟩
    rcases List.mem_append.1 hm with hm | hm
    · exact hb.f m hm
    · simp only [List.mem_singleton] at hm
      subst hm; simp [flagsNew]
  have h7 := spec_BoxOk.says k2 _ hout.ok.1 hout.ok.2.1 hout.ok.2.2.1 hout.ok.2.2.2
  have e10 : (b.mails ++ [(⟨g, b.next, flagsNew f t w, text⟩ : Mail)]).map encMail = b.mails.map encMail ++ [[I g, I b.next, .sl false 3 ((flagsNew f t w).map encReg), S text]] := by simp
  have e11 : b.mails.length + 1 ≤ 4294967296 := by omega
  simp only [encBox, mails, e10] at h7
  simp only [hk, c2, not_false_eq_true, true_and]
  cases c4 : boxOk { b with mails := b.mails ++ [⟨g, b.next, flagsNew f t w, text⟩], next := b.next + 1 }
  · rw [c4] at h7
    simp only [Bool.false_eq_true, if_false]
    simp only [encBox, encBoxO, mails, ints] at *
    generalize (flagsNew f t w).map encReg = rf at *
    generalize b.mails.map encMail = rm at *
    generalize irow b.gone = rg at *
    simp (maxSteps := 1000000) [exB, spec_AddMail.m, spec_AddMail.b, List.range_succ, bs_get, setAt, h1, h2, h3, h4, h5, h6, h7, e7, e8, e9, e11, List.take_of_length_le]
  · rw [c4] at h7
    simp only [if_true]
    simp only [encBox, encBoxO, mails, ints, e10] at *
    generalize (flagsNew f t w).map encReg = rf at *
    generalize b.mails.map encMail = rm at *
    generalize irow b.gone = rg at *
    simp (maxSteps := 1000000) [exB, spec_AddMail.m, spec_AddMail.b, List.range_succ, bs_get, setAt, h1, h2, h3, h4, h5, h6, h7, e7, e8, e9, e11, List.take_of_length_le]
end Mx

/-
  What is done in boxes: mails taken out.
-/
namespace Mx
attribute [simp] oTmps
open Go
variable {M : Nat → Option Body}
theorem added_eq {l : List Int} {n : Int} (hl : Asc l) : joinGone l [n] = gput l n :=
  asc_ext (joinGone_asc l [n]) (gput_asc hl) fun z => by rw [joinGone_mem, gput_mem]; simp; exact or_comm
theorem impl_added.says (h : impl_added.k M) (a : List Int) (n : Int) (ha : a.length ≤ 1048576) : run M 163 [.c (ints a), .c (I n)] [] = some (.c (.sl true 1 (irow (joinGone a [n]))), []) := by
  obtain ⟨h0, k1, k2, k3⟩ := h
  have h1 := impl_copyInts.says k1 a ha
  have hab : (a ++ [n]).length ≤ 4294967296 := by simp; omega
  have h2 := run_sort k2 (a ++ [n]) hab
  have hsl : (sortI (a ++ [n])).length = (a ++ [n]).length := by simp [sortI]
  have h3 := run_compact k3 (sortI (a ++ [n])) (by rw [hsl]; exact hab)
  rw [joinGone_sort] at h3
  have hjl : (joinGone a [n]).length ≤ (a ++ [n]).length := by
    have := gfold_len (a ++ [n]) []; simp only [joinGone]; simpa using this
  refine run_code (b := impl_added.m) h0 ⟨0, ?_⟩
  rw [hsl] at h3
  have e1 : irow (a ++ [n]) = irow a ++ [[I n]] := irow_snoc a n
  have e2 : irow (joinGone a [n] ++ List.replicate ((a ++ [n]).length - (joinGone a [n]).length) 0) = irow (joinGone a [n]) ++ irow (List.replicate ((a ++ [n]).length - (joinGone a [n]).length) 0) := by simp [irow]
  rw [e1] at h2
  rw [e2] at h3
  simp only [List.length_append, List.length_singleton] at h2 h3 hab hjl
  have l1 := irow_length a
  have l3 := irow_length (joinGone a [n])
  have l4 : (irow (List.replicate (a.length + 1 - (joinGone a [n]).length) 0)).length = a.length + 1 - (joinGone a [n]).length := by simp [irow]
  have s1 := irow_scalar (sortI (a ++ [n]))
  have s2 := irow_scalar (joinGone a [n])
  have l5 := irow_length (sortI (a ++ [n]))
  rw [hsl] at l5
  simp only [List.length_append, List.length_singleton] at l5
  simp only [ints] at h1 ⊢
  generalize irow (List.replicate (a.length + 1 - (joinGone a [n]).length) 0) = rz at *
  generalize irow (sortI (a ++ [n])) = rs at *
  generalize joinGone a [n] = j at *
  generalize irow j = rj at *
  have e5 : a.length ≤ 4294967296 := by omega
  have e6 : j.length ≤ rj.length + rz.length := by omega
  generalize irow a = ra at *
  simp (maxSteps := 1000000) [exB, impl_added.m, impl_added.b, List.range_succ, bs_get, setAt, h1, h2, h3, hab, l1, l3, l4, l5, e5, e6, s1, s2, List.take_of_length_le]
theorem last_of {α : Type} (x : α) (q : List α) : ∃ q' y, x :: q = q' ++ [y] ∧ q'.length = q.length := by
  refine ⟨(x :: q).dropLast, (x :: q).getLast (by simp), (List.dropLast_concat_getLast (by simp)).symm, by simp⟩
theorem slices_Delete_mails (h : slices_Delete_impl_Mail_impl_Mail.k M) (p : List (List T)) (x : List T) (q : List (List T)) (hl : p.length + (q.length + 1) ≤ 1048576) :
    run M 162 [.c (.row 0 0 0 (p.length + (q.length + 1))), .c (I p.length), .c (I ((p.length : Int) + 1))] [(0, ⟨0, 4, true, false, p ++ x :: q⟩)] =
      some (.c (.row 0 0 0 (p.length + q.length)), [(0, ⟨0, 4, true, false, p ++ q ++ [mzero]⟩)]) := by
  refine run_code (b := slices_Delete_impl_Mail_impl_Mail.m) h ⟨0, ?_⟩
  obtain ⟨q', y, hy, hq'⟩ := last_of x q
  have g1 : (0 : Int) ≤ (p.length : Int) + 1 := by omega
  have g2 : ¬ (p.length : Int) = (p.length : Int) + 1 := by omega
  have g3 : (p ++ x :: q).take p.length = p := by simp
  have g4 : (p ++ x :: q).drop (p.length + 1) = q := by simp
  have g5 : (p ++ x :: q).drop (p.length + q.length) = [y] := by
    rw [hy, ← hq', List.drop_append]; simp
  have g6 : p.length + (q.length + 1) - (p.length + 1) = q.length := by omega
  have g7 : (p ++ x :: q).length = p.length + (q.length + 1) := by simp
  have g8 : p.length + (q.length + 1) - (p.length + q.length) = 1 := by omega
  have g9 : p.length + q.length ≤ p.length + (q.length + 1) := by omega
  have g10 : p.length + q.length ≤ 4294967296 := by omega
  have g11 : ¬ p.length + q.length = p.length + (q.length + 1) := by omega
  have g12 : (p ++ q ++ [y]).length = p.length + (q.length + 1) := by simp
  have g13 : (p ++ q ++ [y]).take (p.length + q.length) = p ++ q := by rw [← List.length_append, List.take_left]
  have g19 : (1 : Int) ≤ (q.length : Int) + 1 := by omega
  have g20 : 1 ≤ q.length + 1 := by omega
  have g14 : (p ++ q ++ [y]).drop (p.length + (q.length + 1)) = [] := List.drop_eq_nil_of_le (by rw [g12]; omega)
  have g15 : p.length + 1 ≤ p.length + (q.length + 1) := by omega
  have g16 : p.length + q.length + 1 = p.length + (q.length + 1) := by omega
  have g17 : (0 : Int) ≤ (p.length : Int) + (q.length : Int) := by omega
  have g18 : (0 : Int) ≤ (p.length : Int) + ((q.length : Int) + 1) := by omega
  have g21 : p.length + 1 + q.length ≤ p.length + (q.length + 1) := by omega
  have g22 : 1 + q.length ≤ q.length + 1 := by omega
  generalize hR : p ++ x :: q = R at *
  simp only [List.append_assoc] at g12 g13 g14
  by_cases hq0 : q = []
  · subst hq0
    by_cases hz : p.length = 0
    · have hp : p = [] := List.eq_nil_of_length_eq_zero hz
      subst hp
      simp at g1 g2 g3 g4 g5 g6 g7 g8 g9 g10 g11 g12 g13 g14 g15 g16 g17 g18
      simp (maxSteps := 1000000) [exB, slices_Delete_impl_Mail_impl_Mail.m, slices_Delete_impl_Mail_impl_Mail.b, List.range_succ, bs_get, setAt, g1, g2, g3, g4, g5, g6, g7, g8, g9, g10, g11, g12, g13, g14, g15, g16, g17, g18, g19, g20, List.take_of_length_le]
    · simp at g1 g2 g3 g4 g5 g6 g7 g8 g9 g10 g11 g12 g13 g14 g15 g16 g17 g18
      simp (maxSteps := 1000000) [exB, slices_Delete_impl_Mail_impl_Mail.m, slices_Delete_impl_Mail_impl_Mail.b, List.range_succ, bs_get, setAt, g1, g2, g3, g4, g5, g6, g7, g8, g9, g10, g11, g12, g13, g14, g15, g16, g17, g18, g19, g20, hz, List.take_of_length_le]
  · have g23 : ((p.length : Int) + (q.length : Int)).toNat = p.length + q.length := by omega
    have g24 : ((p.length : Int) + ((q.length : Int) + 1)).toNat = p.length + (q.length + 1) := by omega
    have g25 : max ((p.length : Int) + (q.length : Int)) 0 ≤ (p.length : Int) + ((q.length : Int) + 1) := by omega
    by_cases hz : p.length = 0
    · have hp : p = [] := List.eq_nil_of_length_eq_zero hz
      subst hp
      simp at g1 g2 g3 g4 g5 g6 g7 g8 g9 g10 g11 g12 g13 g14 g15 g16 g17 g18
      simp (maxSteps := 1000000) [exB, slices_Delete_impl_Mail_impl_Mail.m, slices_Delete_impl_Mail_impl_Mail.b, List.range_succ, bs_get, setAt, g1, g2, g3, g4, g5, g6, g7, g8, g9, g10, g11, g12, g13, g14, g15, g16, g17, g18, g19, g20, g22, hq0, List.take_of_length_le]
    · simp (maxSteps := 1000000) [exB, slices_Delete_impl_Mail_impl_Mail.m, slices_Delete_impl_Mail_impl_Mail.b, List.range_succ, bs_get, setAt, g1, g2, g3, g4, g5, g6, g7, g8, g9, g10, g11, g12, g13, g14, g15, g16, g17, g18, g19, g20, g21, g23, g24, g25, hz, hq0, List.take_of_length_le]
end Mx

/-
  What is done in boxes: mails taken out.
-/
namespace Mx
open Go
variable {M : Nat → Option Body}
theorem gidsOk_asc {l : List Int} {most : Int} (h : gidsOk l most = true) : Asc l := by
  simp only [gidsOk, Bool.and_eq_true, decide_eq_true_eq, Option.isNone_iff_eq_none, firstN_isNone] at h
  have hn : ∀ j (hj : j < l.length), ∀ i (hi : i < j), l[i]'(by omega) < l[j] := by
    intro j
    induction j with
    | zero => intro _ i hi; omega
    | succ j ih =>
      intro hj i hi
      have := h.1 (j + 1) hj
      rw [badGid_at hj] at this
      simp at this
      by_cases e : i = j
      · subst e; exact this.2
      · exact Int.lt_trans (ih (by omega) i (by omega)) this.2
  exact List.pairwise_iff_getElem.2 fun i j hi hj hij => hn j hj i hij
theorem boxOk_gone {b : Box} (h : boxOk b = true) : gidsOk b.gone 40 = true := by
  simp only [boxOk, Bool.and_eq_true] at h
  exact h.1.2
def takeOut (b : Box) (g : Int) : Box × Bool := match mailO b.mails g with
  | none => (b, false)
  | some k => if boxOk b = true ∧ b.gone.length < 40 then ({ b with mails := b.mails.take k ++ b.mails.drop (k + 1), gone := gput b.gone g }, true) else (b, false)
theorem slices_Delete_at (h : slices_Delete_impl_Mail_impl_Mail.k M) (r : List (List T)) (k : Nat) (hk : k < r.length) (hl : r.length ≤ 1048576) :
    run M 162 [.c (.row 0 0 0 r.length), .c (I k), .c (I ((k : Int) + 1))] [(0, ⟨0, 4, true, false, r⟩)] =
      some (.c (.row 0 0 0 (r.length - 1)), [(0, ⟨0, 4, true, false, r.take k ++ r.drop (k + 1) ++ [mzero]⟩)]) := by
  have e : r.take k ++ r[k] :: r.drop (k + 1) = r := by simp
  have := slices_Delete_mails h (r.take k) r[k] (r.drop (k + 1)) (by simp; omega)
  rw [e] at this
  have e1 : (r.take k).length = k := by simp; omega
  have e2 : (r.drop (k + 1)).length = r.length - (k + 1) := by simp
  rw [e1, e2] at this
  have e3 : k + (r.length - (k + 1) + 1) = r.length := by omega
  have e4 : k + (r.length - (k + 1)) = r.length - 1 := by omega
  rw [e3, e4] at this
  exact this
set_option maxHeartbeats 1000000 in
theorem impl_TakeOut.says (h : impl_TakeOut.k M) (b : Box) (hb : BoxIn b) (g : Int) : run M 73 [.a (encBox b), .c (I g)] [] = some (.tup [.a (encBoxO (takeOut b g).1), .c (.bool (takeOut b g).2)], []) := by
  obtain ⟨h0, k1, k2, k3, k4, k5⟩ := h
  have h1 := impl_MailAt.says k1 b g hb.m
  have h2 := impl_BoxOk.says k2 b hb.ok.1 hb.ok.2.1 hb.ok.2.2.1 hb.ok.2.2.2
  have h4 := impl_copyBox.says k3 b hb
  have h5 := impl_added.says k5 b.gone g hb.g
  refine run_code (b := impl_TakeOut.m) h0 ⟨0, ?_⟩
  have e7 : (b.mails.map encMail).length = b.mails.length := by simp
  have e8 := irow_length b.gone
  unfold takeOut
  cases hk : mailO b.mails g with
  | none =>
    rw [hk] at h1
    simp only [intO] at h1
    simp only [encBox, encBoxO, mails, ints] at *
    generalize boxOk b = ok at *
    generalize b.mails.map encMail = rm at *
    generalize irow b.gone = rg at *
    cases ok <;> simp (maxSteps := 1000000) [exB, impl_TakeOut.m, impl_TakeOut.b, List.range_succ, bs_get, setAt, h1, h2, h4, e7, e8, List.take_of_length_le]
  | some k =>
    have hlt := mailO_lt hk
    rw [hk] at h1
    simp only [intO] at h1
    have hng : ¬ (k : Int) < 0 := by omega
    cases c1 : boxOk b
    · rw [c1] at h2
      simp only [Bool.false_eq_true, false_and, if_false]
      simp only [encBox, encBoxO, mails, ints] at *
      generalize b.mails.map encMail = rm at *
      generalize irow b.gone = rg at *
      simp (maxSteps := 1000000) [exB, impl_TakeOut.m, impl_TakeOut.b, List.range_succ, bs_get, setAt, h1, h2, h4, e7, e8, List.take_of_length_le]
    rw [c1] at h2
    have h40 := (boxOk_vars c1).2.2.2.2.2.2.1
    have hml := (boxOk_vars c1).2.2.2.2.2.1
    by_cases c2 : b.gone.length < 40
    · have n2 : ¬ b.gone.length = 40 := by omega
      have n3 : ¬ (b.gone.length : Int) = 40 := by omega
      simp only [c2, and_self, if_true]
      rw [added_eq (gidsOk_asc (boxOk_gone c1))] at h5
      have h6 := slices_Delete_at k4 (b.mails.map encMail) k (by rw [e7]; exact hlt) (by rw [e7]; exact hb.m)
      rw [e7] at h6
      have e9 : IntKind.i64.wrap ((k : Int) + 1) = (k : Int) + 1 := wrap_i64 (by omega) (by omega)
      have e10 : (b.mails.take k ++ b.mails.drop (k + 1)).map encMail = (b.mails.map encMail).take k ++ (b.mails.map encMail).drop (k + 1) := by simp
      have e11 : ((b.mails.map encMail).take k ++ ((b.mails.map encMail).drop (k + 1) ++ [mzero])).take (b.mails.length - 1) = (b.mails.map encMail).take k ++ (b.mails.map encMail).drop (k + 1) := by
        rw [← List.append_assoc]; exact List.take_left' (by simp; omega)
      have e12 := irow_length (gput b.gone g)
      have e13 : b.mails.length ≤ min k b.mails.length + (b.mails.length - (k + 1) + 1) + 1 := by omega
      simp only [encBox, encBoxO, mails, ints, e10] at *
      generalize b.mails.map encMail = rm at *
      generalize irow b.gone = rg at *
      generalize irow (gput b.gone g) = ru at *
      simp (maxSteps := 1000000) [exB, impl_TakeOut.m, impl_TakeOut.b, List.range_succ, bs_get, setAt, h1, h2, h4, h5, h6, e7, e8, e9, e11, e12, e13, hng, n2, n3, List.take_of_length_le]
    · have n2 : b.gone.length = 40 := by omega
      have n3 : (b.gone.length : Int) = 40 := by omega
      simp only [c2, and_false, if_false]
      simp only [encBox, encBoxO, mails, ints] at *
      generalize b.mails.map encMail = rm at *
      generalize irow b.gone = rg at *
      simp (maxSteps := 1000000) [exB, impl_TakeOut.m, impl_TakeOut.b, List.range_succ, bs_get, setAt, h1, h2, h4, e7, e8, n2, n3, hng, List.take_of_length_le]
set_option maxHeartbeats 1000000 in
theorem spec_TakeOut.says (h : spec_TakeOut.k M) (b : Box) (hb : BoxIn b) (g : Int) : run M 86 [.a (encBox b), .c (I g)] [] = some (.tup [.a (encBoxO (takeOut b g).1), .c (.bool (takeOut b g).2)], []) := by
  obtain ⟨h0, k2, k1, k5, k3⟩ := h
  have h1 := spec_MailAt.says k1 b g hb.m
  have h2 := spec_BoxOk.says k2 b hb.ok.1 hb.ok.2.1 hb.ok.2.2.1 hb.ok.2.2.2
  have h4 := spec_l06Copy.says k3 b hb
  have h5 := spec_l06Put.says k5 b.gone g (by have := hb.g; omega)
  refine run_code (b := spec_TakeOut.m) h0 ⟨0, ?_⟩
  have e7 : (b.mails.map encMail).length = b.mails.length := by simp
  have e8 := irow_length b.gone
  unfold takeOut
  cases hk : mailO b.mails g with
  | none =>
    rw [hk] at h1
    simp only [intO] at h1
    simp only [encBox, encBoxO, mails, ints] at *
    generalize boxOk b = ok at *
    generalize b.mails.map encMail = rm at *
    generalize irow b.gone = rg at *
    cases ok <;> simp (maxSteps := 1000000) [exB, spec_TakeOut.m, spec_TakeOut.b, List.range_succ, bs_get, setAt, h1, h2, h4, e7, e8, List.take_of_length_le]
  | some k =>
    have hlt := mailO_lt hk
    rw [hk] at h1
    simp only [intO] at h1
    have hng : ¬ (k : Int) < 0 := by omega
    cases c1 : boxOk b
    · rw [c1] at h2
      simp only [Bool.false_eq_true, false_and, if_false]
      simp only [encBox, encBoxO, mails, ints] at *
      generalize b.mails.map encMail = rm at *
      generalize irow b.gone = rg at *
      simp (maxSteps := 1000000) [exB, spec_TakeOut.m, spec_TakeOut.b, List.range_succ, bs_get, setAt, h1, h2, h4, e7, e8, List.take_of_length_le]
    rw [c1] at h2
    have h40 := (boxOk_vars c1).2.2.2.2.2.2.1
    have hml := (boxOk_vars c1).2.2.2.2.2.1
    by_cases c2 : b.gone.length < 40
    · have n2 : ¬ 40 ≤ b.gone.length := by omega
      have n3 : ¬ (40 : Int) ≤ (b.gone.length : Int) := by omega
      simp only [c2, and_self, if_true]
      have e9 : IntKind.i64.wrap ((k : Int) + 1) = (k : Int) + 1 := wrap_i64 (by omega) (by omega)
      have e10 : (b.mails.take k ++ b.mails.drop (k + 1)).map encMail = (b.mails.map encMail).take k ++ (b.mails.map encMail).drop (k + 1) := by simp
      have e14 : min k b.mails.length = k := by omega
      have e12 := irow_length (gput b.gone g)
      have e13 : b.mails.length ≤ min k b.mails.length + (b.mails.length - (k + 1) + 1) + 1 := by omega
      simp only [encBox, encBoxO, mails, ints, e10] at *
      generalize b.mails.map encMail = rm at *
      generalize irow b.gone = rg at *
      generalize irow (gput b.gone g) = ru at *
      have f1 : k ≤ b.mails.length := by omega
      have f2 : k + 1 ≤ b.mails.length := by omega
      have f3 : (0 : Int) ≤ k := by omega
      have f4 : (0 : Int) ≤ (k : Int) + 1 := by omega
      have f5 : (k : Int) ≤ b.mails.length := by omega
      have f6 : (k : Int) + 1 ≤ b.mails.length := by omega
      have f7 : ((k : Int) + 1).toNat = k + 1 := by omega
      have f8 : rm.take b.mails.length = rm := List.take_of_length_le (by omega)
      have f9 : k ≤ 4294967296 := by omega
      have f10 : b.mails.length ≤ 4294967296 := by omega
      have f11 : k + (b.mails.length - (k + 1)) ≤ 4294967296 := by omega
      have f13 : IntKind.i64.wrap 1 = 1 := wrap_i64 (by omega) (by omega)
      have f14 : b.mails.length ≤ 4294967297 := by omega
      have f12 : rm.length - (k + 1) ≤ 4294967296 := by omega
      by_cases z : k = 0
      · subst z
        by_cases y : b.mails.length = 1
        · have y2 : rm.drop 1 = [] := List.drop_eq_nil_of_le (by omega)
          simp (maxSteps := 1000000) [exB, spec_TakeOut.m, spec_TakeOut.b, List.range_succ, bs_get, setAt, h1, h2, h4, h5, e7, e8, e9, e12, n2, n3, f13, y, y2, List.take_of_length_le]
        · have y1 : ¬ 1 = b.mails.length := by omega
          simp (maxSteps := 1000000) [exB, spec_TakeOut.m, spec_TakeOut.b, List.range_succ, bs_get, setAt, h1, h2, h4, h5, e7, e8, e9, e12, n2, n3, f1, f2, f3, f4, f5, f6, f7, f8, f9, f10, f11, f12, f13, f14, y, y1, List.take_of_length_le]
      · have z0 : ¬ 0 = k := by omega
        by_cases y : b.mails.length = k + 1
        · have y2 : rm.drop (k + 1) = [] := List.drop_eq_nil_of_le (by omega)
          simp (maxSteps := 1000000) [exB, spec_TakeOut.m, spec_TakeOut.b, List.range_succ, bs_get, setAt, h1, h2, h4, h5, e7, e8, e9, e12, e14, hng, n2, n3, f1, f2, f3, f4, f5, f6, f7, f8, f9, f10, f11, f12, z, z0, y, y2, List.take_of_length_le]
        · have y1 : ¬ k + 1 = b.mails.length := by omega
          simp (maxSteps := 1000000) [exB, spec_TakeOut.m, spec_TakeOut.b, List.range_succ, bs_get, setAt, h1, h2, h4, h5, e7, e8, e9, e12, e14, hng, n2, n3, f1, f2, f3, f4, f5, f6, f7, f8, f9, f10, f11, f12, z, z0, y, y1, List.take_of_length_le]
    · have n2 : 40 ≤ b.gone.length := by omega
      have n3 : (40 : Int) ≤ (b.gone.length : Int) := by omega
      simp only [c2, and_false, if_false]
      simp only [encBox, encBoxO, mails, ints] at *
      generalize b.mails.map encMail = rm at *
      generalize irow b.gone = rg at *
      simp (maxSteps := 1000000) [exB, spec_TakeOut.m, spec_TakeOut.b, List.range_succ, bs_get, setAt, h1, h2, h4, e7, e8, n2, n3, hng, List.take_of_length_le]
end Mx

/-
  Right boxes, in plain words.
-/
namespace Mx
open Go
theorem atO_some (l : List Mail) (g : Int) : ∀ d i k, atO l g d i = some k → i ≤ k ∧ ∃ h : k < l.length, (l[k]).gid = g ∧ ∀ j, i ≤ j → (hj : j < k) → (l[j]'(by omega)).gid ≠ g
  | 0, i, k, h => by simp [atO] at h
  | d + 1, i, k, h => by
    simp only [atO] at h
    split at h
    · rename_i hi
      split at h
      · rename_i e
        cases h
        exact ⟨Nat.le_refl _, hi, e, fun j h1 h2 => by omega⟩
      · rename_i e
        obtain ⟨h1, h2, h3, h4⟩ := atO_some l g d (i + 1) k h
        refine ⟨by omega, h2, h3, fun j hj hk => ?_⟩
        by_cases q : j = i
        · subst q; exact e
        · exact h4 j (by omega) hk
    · cases h
theorem atO_none (l : List Mail) (g : Int) : ∀ d i, atO l g d i = none → ∀ j, i ≤ j → j < i + d → (hj : j < l.length) → (l[j]).gid ≠ g
  | 0, i, h, j, h1, h2, hj => by omega
  | d + 1, i, h, j, h1, h2, hj => by
    simp only [atO] at h
    rw [dif_pos (by omega)] at h
    split at h
    · cases h
    · rename_i e
      by_cases q : j = i
      · subst q; exact e
      · exact atO_none l g d (i + 1) h j (by omega) (by omega) hj
theorem mailO_some {l : List Mail} {g : Int} {k : Nat} (h : mailO l g = some k) : ∃ h : k < l.length, (l[k]).gid = g ∧ ∀ j, (hj : j < k) → (l[j]'(by omega)).gid ≠ g := by
  obtain ⟨_, h1, h2, h3⟩ := atO_some l g _ _ _ h
  exact ⟨h1, h2, fun j hj => h3 j (Nat.zero_le _) hj⟩
theorem mailO_none {l : List Mail} {g : Int} : mailO l g = none ↔ ∀ m ∈ l, m.gid ≠ g := by
  constructor
  · intro h m hm
    obtain ⟨j, hj, rfl⟩ := List.getElem_of_mem hm
    exact atO_none l g _ _ h j (Nat.zero_le _) (by omega) hj
  · intro h
    cases q : mailO l g with
    | none => rfl
    | some k =>
      obtain ⟨h1, h2, _⟩ := mailO_some q
      exact (h _ (List.getElem_mem h1) h2).elim
theorem mailO_at {l : List Mail} {k : Nat} (hk : k < l.length) (h : ∀ j, (hj : j < k) → (l[j]'(by omega)).gid ≠ (l[k]).gid) : mailO l (l[k]).gid = some k := by
  cases q : mailO l (l[k]).gid with
  | none => exact (mailO_none.1 q _ (List.getElem_mem hk) rfl).elim
  | some k' =>
    obtain ⟨h1, h2, h3⟩ := mailO_some q
    rcases Nat.lt_trichotomy k' k with c | c | c
    · exact (h k' c h2).elim
    · rw [c]
    · exact (h3 k c rfl).elim
/-- a right box -/
structure Good (b : Box) : Prop where
  gid : 1 ≤ b.gid ∧ b.gid ≤ 9999
  name : nameOk b.name = true
  st : stampOk b.time b.who = true
  next : 1 ≤ b.next ∧ b.next ≤ 10000
  len : b.mails.length ≤ 10
  gone : Asc b.gone
  goneR : ∀ g ∈ b.gone, 1 ≤ g ∧ g ≤ 9999
  goneL : b.gone.length ≤ 40
  mail : ∀ m ∈ b.mails, mailOk m = true ∧ m.uid < b.next ∧ ¬ m.gid ∈ b.gone
  uids : b.mails.Pairwise (fun a c => a.uid < c.uid)
  gids : b.mails.Pairwise (fun a c => a.gid ≠ c.gid)
theorem step_asc {l : List Int} (h : ∀ j (hj : j + 1 < l.length), l[j] < l[j + 1]) : Asc l := by
  have hn : ∀ j (hj : j < l.length), ∀ i (hi : i < j), l[i]'(by omega) < l[j] := by
    intro j
    induction j with
    | zero => intro _ i hi; omega
    | succ j ih =>
      intro hj i hi
      by_cases e : i = j
      · subst e; exact h i hj
      · exact Int.lt_trans (ih (by omega) i (by omega)) (h j hj)
  exact List.pairwise_iff_getElem.2 fun i j hi hj hij => hn j hj i hij
theorem gidsOk_iff {l : List Int} {most : Int} : gidsOk l most = true ↔ Asc l ∧ (∀ g ∈ l, 1 ≤ g ∧ g ≤ 9999) ∧ (l.length : Int) ≤ most := by
  constructor
  · intro h
    exact ⟨gidsOk_asc h, (gidsOk_vars h).2, (gidsOk_vars h).1⟩
  · rintro ⟨h1, h2, h3⟩
    simp only [gidsOk, Bool.and_eq_true, decide_eq_true_eq, Option.isNone_iff_eq_none, firstN_isNone]
    refine ⟨fun j hj => ?_, h3⟩
    rw [badGid_at hj]
    have q1 := h2 _ (List.getElem_mem hj)
    simp only [Bool.or_eq_false_iff, Bool.not_eq_eq_eq_not, Bool.not_false, Bool.and_eq_false_imp, decide_eq_true_eq, decide_eq_false_iff_not]
    refine ⟨inR_iff.2 q1, fun h0 => ?_⟩
    have := List.pairwise_iff_getElem.1 h1 (j - 1) j (by omega) hj (by omega)
    omega
theorem boxOk_iff {b : Box} : boxOk b = true ↔ Good b := by
  constructor
  · intro h
    have hv := boxOk_vars h
    have hg := gidsOk_iff.1 (boxOk_gone h)
    simp only [boxOk, Bool.and_eq_true, decide_eq_true_eq, Option.isNone_iff_eq_none, firstN_isNone] at h
    obtain ⟨⟨⟨⟨⟨⟨h1, h2⟩, h3⟩, h4⟩, h5⟩, h6⟩, h7⟩ := h
    have key : ∀ i (hi : i < b.mails.length), mailOk b.mails[i] = true ∧ b.mails[i].uid < b.next ∧ (0 < i → b.mails[i - 1].uid < b.mails[i].uid) ∧ mailO b.mails b.mails[i].gid = some i ∧ ¬ b.mails[i].gid ∈ b.gone := by
      intro i hi
      have := h7 i hi
      rw [badMail_at hi] at this
      simp only [Bool.or_eq_false_iff, Bool.not_eq_eq_eq_not, Bool.not_false, Bool.and_eq_false_imp, decide_eq_true_eq, decide_eq_false_iff_not] at this
      obtain ⟨⟨⟨⟨q1, q2⟩, q3⟩, q4⟩, q5⟩ := this
      refine ⟨q1, by omega, fun h0 => by have := q3 h0; omega, ?_, q5⟩
      cases e : mailO b.mails b.mails[i].gid with
      | none => rw [e] at q4; simp only [intO] at q4; omega
      | some k => rw [e] at q4; simp only [intO] at q4; rw [show k = i by omega]
    refine ⟨inR_iff.1 h1, h2, h3, inR_iff.1 h4, h5, hg.1, hg.2.1, by omega, fun m hm => ?_, ?_, ?_⟩
    · obtain ⟨j, hj, rfl⟩ := List.getElem_of_mem hm
      have := key j hj
      exact ⟨this.1, this.2.1, this.2.2.2.2⟩
    · have ha : Asc (b.mails.map (·.uid)) := step_asc fun j hj => by
        simp only [List.length_map] at hj
        have := (key (j + 1) hj).2.2.1 (by omega)
        simpa using this
      exact List.pairwise_map.1 ha
    · refine List.pairwise_iff_getElem.2 fun i j hi hj hij e => ?_
      obtain ⟨_, _, h3⟩ := mailO_some (key j hj).2.2.2.1
      exact h3 i hij e
  · intro h
    simp only [boxOk, Bool.and_eq_true, decide_eq_true_eq, Option.isNone_iff_eq_none, firstN_isNone]
    refine ⟨⟨⟨⟨⟨⟨inR_iff.2 h.gid, h.name⟩, h.st⟩, inR_iff.2 h.next⟩, h.len⟩, gidsOk_iff.2 ⟨h.gone, h.goneR, by have := h.goneL; omega⟩⟩, fun i hi => ?_⟩
    rw [badMail_at hi]
    obtain ⟨q1, q2, q3⟩ := h.mail _ (List.getElem_mem hi)
    simp only [Bool.or_eq_false_iff, Bool.not_eq_eq_eq_not, Bool.not_false, Bool.and_eq_false_imp, decide_eq_true_eq, decide_eq_false_iff_not]
    refine ⟨⟨⟨⟨q1, by omega⟩, fun h0 => ?_⟩, ?_⟩, q3⟩
    · have := List.pairwise_iff_getElem.1 h.uids (i - 1) i (by omega) hi (by omega)
      omega
    · rw [mailO_at hi fun j hj => List.pairwise_iff_getElem.1 h.gids j i (by omega) hi hj]
      rfl
end Mx

/-
  Right boxes stay right under what is done in them.
-/
namespace Mx
open Go
/-- a drawn box after i turns -/
structure Drawn (i : Nat) (b : Box) : Prop where
  good : Good b
  m : ∀ m ∈ b.mails, 10 ≤ m.gid ∧ m.gid ≤ 18
  g : ∀ g ∈ b.gone, 10 ≤ g ∧ g ≤ 18
  nx : b.next ≤ 4 + i
  gl : b.gone.length ≤ i
theorem Drawn.mono {i j : Nat} {b : Box} (h : Drawn i b) (hij : i ≤ j) : Drawn j b := ⟨h.good, h.m, h.g, by have := h.nx; omega, by have := h.gl; omega⟩
theorem Good.inB {b : Box} (h : Good b) : BoxIn b :=
  ⟨by have := h.len; omega, by have := h.goneL; omega, by have := (nameOk_len h.name).2; omega, fun m hm => by have := (mailOk_vars (h.mail m hm).1).2.2.1; omega⟩
theorem drawn_add {i : Nat} {b : Box} (h : Drawn i b) {g : Int} (hg : 10 ≤ g ∧ g ≤ 18) (f : Int) (x : List UInt8) (t w : Int) : Drawn (i + 1) (addMail b g f x t w).1 := by
  unfold addMail
  split
  · rename_i c
    refine ⟨boxOk_iff.1 c.2.2.2.2, fun m hm => ?_, h.g, by have := h.nx; simp only; omega, by have := h.gl; simp only; omega⟩
    rcases List.mem_append.1 hm with q | q
    · exact h.m m q
    · simp only [List.mem_singleton] at q; subst q; exact hg
  · exact h.mono (by omega)
theorem gput_len (l : List Int) (x : Int) : (gput l x).length ≤ l.length + 1 := by
  have h : ∀ l : List Int, (l.filter (fun y => decide (y < x))).length + (l.filter (fun y => decide (x < y))).length ≤ l.length := by
    intro l
    induction l with
    | nil => simp
    | cons a l ih =>
      simp only [List.filter_cons]
      by_cases c1 : a < x
      · have c2 : ¬ x < a := by omega
        simp [c1, c2]; omega
      · by_cases c2 : x < a
        · simp [c1, c2]; omega
        · simp [c1, c2]; omega
  have := h l
  simp only [gput, List.length_append, List.length_singleton]; omega
theorem sub_take_drop {α : Type} (l : List α) (k : Nat) : (l.take k ++ l.drop (k + 1)).Sublist l := by
  have e : l = l.take k ++ l.drop k := (List.take_append_drop k l).symm
  have h1 : (l.drop (k + 1)).Sublist (l.drop k) := by rw [← List.drop_drop]; exact List.drop_sublist 1 _
  have h2 := List.Sublist.append (List.Sublist.refl (l.take k)) h1
  rw [← e] at h2; exact h2
theorem good_take {b : Box} (h : Good b) {k : Nat} (hk : k < b.mails.length) (h40 : b.gone.length < 40) :
    Good { b with mails := b.mails.take k ++ b.mails.drop (k + 1), gone := gput b.gone (b.mails[k]).gid } := by
  have hs := sub_take_drop b.mails k
  have hq := h.mail _ (List.getElem_mem hk)
  have hv := (mailOk_vars hq.1).1
  have hgid : 1 ≤ (b.mails[k]).gid ∧ (b.mails[k]).gid ≤ 9999 := by
    have := hq.1
    simp only [mailOk, Bool.and_eq_true] at this
    exact inR_iff.1 this.1.1.1
  refine ⟨h.gid, h.name, h.st, h.next, by have := hs.length_le; have := h.len; simp only; omega, gput_asc h.gone, fun g hg => ?_, by have := gput_len b.gone (b.mails[k]).gid; simp only; omega, fun m hm => ?_, h.uids.sublist hs, h.gids.sublist hs⟩
  · rcases gput_mem.1 hg with q | q
    · rw [q]; exact hgid
    · exact h.goneR g q
  · have hm' := h.mail m (hs.subset hm)
    refine ⟨hm'.1, hm'.2.1, fun c => ?_⟩
    rcases gput_mem.1 c with q | q
    · rcases List.mem_append.1 hm with z | z
      · obtain ⟨j, hj, rfl⟩ := List.getElem_of_mem z
        rw [List.getElem_take] at q
        have hjk : j < k := by simp at hj; omega
        exact List.pairwise_iff_getElem.1 h.gids j k (by omega) hk hjk q
      · obtain ⟨j, hj, rfl⟩ := List.getElem_of_mem z
        rw [List.getElem_drop] at q
        exact List.pairwise_iff_getElem.1 h.gids k (k + 1 + j) hk (by simp at hj; omega) (by omega) q.symm
    · exact hm'.2.2 q
theorem drawn_take {i : Nat} {b : Box} (h : Drawn i b) {g : Int} (hg : 10 ≤ g ∧ g ≤ 18) : Drawn (i + 1) (takeOut b g).1 := by
  unfold takeOut
  split
  · exact h.mono (by omega)
  · rename_i k hk
    obtain ⟨hlt, he, _⟩ := mailO_some hk
    split
    · rename_i c
      have hs := sub_take_drop b.mails k
      have := good_take h.good hlt c.2
      rw [he] at this
      refine ⟨this, fun m hm => h.m m (hs.subset hm), fun x hx => ?_, by have := h.nx; simp only; omega, by have := gput_len b.gone g; have := h.gl; simp only; omega⟩
      rcases gput_mem.1 hx with q | q
      · rw [q]; exact hg
      · exact h.g x q
    · exact h.mono (by omega)
theorem flagsOk_iff {l : List Reg} : flagsOk l = true ↔ l.length = 3 ∧ ∀ r ∈ l, regOk r = true ∧ r.val ≤ 1 := by
  simp only [flagsOk, Bool.and_eq_true, decide_eq_true_eq, Option.isNone_iff_eq_none, firstN_isNone]
  constructor
  · rintro ⟨h1, h2⟩
    refine ⟨h2, fun r hr => ?_⟩
    obtain ⟨j, hj, rfl⟩ := List.getElem_of_mem hr
    have := h1 j hj
    rw [badFlag_at hj] at this
    simp only [Bool.or_eq_false_iff, Bool.not_eq_eq_eq_not, Bool.not_false, decide_eq_false_iff_not] at this
    exact ⟨this.1, by omega⟩
  · rintro ⟨h1, h2⟩
    refine ⟨fun j hj => ?_, h1⟩
    have := h2 _ (List.getElem_mem hj)
    rw [badFlag_at hj]
    simp only [Bool.or_eq_false_iff, Bool.not_eq_eq_eq_not, Bool.not_false, decide_eq_false_iff_not]
    exact ⟨this.1, by omega⟩
theorem setFlags_ok {l : List Reg} (h : flagsOk l = true) (n t w : Int) : flagsOk (setFlags l n t w) = true := by
  unfold setFlags
  split
  · obtain ⟨h1, h2⟩ := flagsOk_iff.1 h
    refine flagsOk_iff.2 ⟨by simpa using h1, fun r hr => ?_⟩
    obtain ⟨j, hj, rfl⟩ := List.getElem_of_mem hr
    rw [List.getElem_mapIdx]
    have hq := h2 _ (List.getElem_mem (l := l) (by simpa using hj))
    unfold setFlag
    split
    · exact hq
    · unfold putReg
      split
      · rename_i c
        exact ⟨c.2, (bitOf_range n j).2⟩
      · exact hq
  · exact h
theorem good_set {b : Box} (h : Good b) {k : Nat} (hk : k < b.mails.length) (fl : List Reg) (hf : flagsOk fl = true) : Good { b with mails := b.mails.set k { b.mails[k] with flags := fl } } := by
  have e1 : (b.mails.set k { b.mails[k] with flags := fl }).map (·.uid) = b.mails.map (·.uid) := by
    rw [List.map_set]; apply List.ext_getElem <;> simp [List.getElem_set]; intro i hi h2; subst h2; rfl
  have e2 : (b.mails.set k { b.mails[k] with flags := fl }).map (·.gid) = b.mails.map (·.gid) := by
    rw [List.map_set]; apply List.ext_getElem <;> simp [List.getElem_set]; intro i hi h2; subst h2; rfl
  refine ⟨h.gid, h.name, h.st, h.next, by simpa using h.len, h.gone, h.goneR, h.goneL, fun m hm => ?_, ?_, ?_⟩
  · obtain ⟨j, hj, rfl⟩ := List.getElem_of_mem hm
    simp only [List.length_set] at hj
    simp only [List.getElem_set]
    split
    · rename_i e; subst e
      have hq := h.mail _ (List.getElem_mem hk)
      refine ⟨?_, hq.2.1, hq.2.2⟩
      have := hq.1
      simp only [mailOk, Bool.and_eq_true] at this ⊢
      exact ⟨⟨this.1.1, hf⟩, this.2⟩
    · exact h.mail _ (List.getElem_mem hj)
  · have := List.pairwise_map.2 h.uids
    rw [← e1] at this
    exact List.pairwise_map.1 this
  · have := List.pairwise_map.2 h.gids
    rw [← e2] at this
    exact List.pairwise_map.1 this
theorem drawn_flag {i : Nat} {b : Box} (h : Drawn i b) (g n t w : Int) : Drawn (i + 1) (flagMail b g n t w).1 := by
  unfold flagMail
  split
  · exact h.mono (by omega)
  · rename_i k hk
    obtain ⟨hlt, he, _⟩ := mailO_some hk
    rw [List.getElem?_eq_getElem hlt]
    simp only
    split
    · have hm := h.good.mail _ (List.getElem_mem hlt)
      have hf : flagsOk (b.mails[k]).flags = true := by
        have := hm.1
        simp only [mailOk, Bool.and_eq_true] at this
        exact this.1.2
      refine ⟨good_set h.good hlt _ (setFlags_ok hf n t w), fun m hm => ?_, h.g, by have := h.nx; simp only; omega, by have := h.gl; simp only; omega⟩
      obtain ⟨j, hj, rfl⟩ := List.getElem_of_mem hm
      simp only [List.getElem_set]
      split
      · exact h.m (b.mails[k]) (List.getElem_mem hlt)
      · exact h.m _ (List.getElem_mem (by simpa using hj))
    · exact h.mono (by omega)
end Mx

/-
  What is drawn: a box.
-/
namespace Mx
open Go
variable {M : Nat → Option Body}
structure BxS where
  i : Nat
  b : Box
  c : Bool
  u2 : Nat
  u4 : Nat
  v1 : Nat
  v2 : Nat
  ic : Nat
  q : Int
  n : Nat
def bxM (s : BxS) : T := if s.c then .row 14905 s.v1 0 s.b.mails.length else .nils 4
def bxG (s : BxS) : T := if s.c then .row 14906 s.v2 0 s.b.gone.length else .nils 1
def dbxO (R : List (List T)) (s : BxS) : List (Nat × Ob) := [curD R s.ic s.q, (2, ⟨s.u2, 7, true, true, [bzero]⟩), (4, ⟨s.u4, 7, true, true, [[I s.b.gid, S s.b.name, I s.b.time, I s.b.who, I s.b.next, bxM s, bxG s]]⟩)] ++
  if s.c then [(14905, ⟨s.v1, 4, true, false, s.b.mails.map encMail⟩), (14906, ⟨s.v2, 1, true, false, irow s.b.gone⟩)] else []
def dbxS (R : List (List T)) (s : BxS) : St := { t := [(0, .c (.ptr 0 0 0 0)), (2, .c (.ptr 2 s.u2 0 0)), (4, .c (.ptr 4 s.u4 0 0)), (5, .c (I s.i))], o := dbxO R s, n := s.n }
def dbxE (R : List (List T)) (s : BxS) : St := { t := [(0, .c (.ptr 0 0 0 0)), (2, .c (.ptr 2 s.u2 0 0)), (4, .c (.ptr 4 s.u4 0 0)), (5, .c (I s.i)), (21, .c (.bool false))], o := dbxO R s, n := s.n }
structure BxI (R : List (List T)) (s : BxS) : Prop where
  i : s.i ≤ 11
  b : Drawn s.i s.b
  c : s.ic ≤ R.length
  e : s.c = false → s.b.mails = [] ∧ s.b.gone = []
structure BxK (M : Nat → Option Body) : Prop where
  add : spec_AddMail.k M
  flag : spec_FlagMail.k M
  take : spec_TakeOut.k M
  below : spec_l01Below.k M
  text : spec_l05Text.k M
  pick : spec_l01Pick.k M
  stamp : spec_l03Stamp.k M
/-- the loop ends -/
theorem bx_end {R : List (List T)} (s : BxS) (k ic' x : Nat) (q' : Int) (h1 : run M 125 [.c (.ptr 0 0 0 0), .c (I 12)] [curD R s.ic s.q] = some (.c (I x), [curD R ic' q'])) (hx : ¬ s.i < x) :
    ∃ n', exC (run M) k spec_l06Box.l0 (dbxS R s) = some (.exit 0, dbxE R { s with ic := ic', q := q', n := n' }) := by
  obtain ⟨i, b, c, u2, u4, v1, v2, ic, q, n⟩ := s
  simp only at h1 hx
  have e7 : (b.mails.map encMail).length = b.mails.length := by simp
  have e8 := irow_length b.gone
  simp only [dbxS, dbxE, dbxO, bxM, bxG]
  generalize b.mails.map encMail = rm at *
  generalize irow b.gone = rg at *
  cases c
  · simp (maxSteps := 1000000) [spec_l06Box.l0, List.range_succ, bs_get, setAt, h1, hx]
  · simp (maxSteps := 1000000) [spec_l06Box.l0, List.range_succ, bs_get, setAt, h1, hx]
set_option maxHeartbeats 4000000 in
theorem bx_add {R : List (List T)} (s : BxS) (k ic1 ic2 ic3 ic4 ic5 ic6 x g t w k5 f : Nat) (tx : List UInt8) (q1 q2 q3 q4 q5 q6 : Int) (b' : Box) (ok : Bool) (hi : s.i ≤ 11) (hg : g < 9)
    (he : s.c = false → s.b.mails = [] ∧ s.b.gone = [])
    (h1 : run M 125 [.c (.ptr 0 0 0 0), .c (I 12)] [curD R s.ic s.q] = some (.c (I x), [curD R ic1 q1])) (hx : s.i < x)
    (h2 : run M 125 [.c (.ptr 0 0 0 0), .c (I 9)] [curD R ic1 q1] = some (.c (I g), [curD R ic2 q2]))
    (h3 : run M 232 [.c (.ptr 0 0 0 0)] [curD R ic2 q2] = some (.a [I t, I w], [curD R ic3 q3]))
    (h4 : run M 125 [.c (.ptr 0 0 0 0), .c (I 5)] [curD R ic3 q3] = some (.c (I k5), [curD R ic4 q4]))
    (hk : k5 = 0 ∨ k5 = 1 ∨ k5 = 2)
    (h5 : run M 125 [.c (.ptr 0 0 0 0), .c (I 8)] [curD R ic4 q4] = some (.c (I f), [curD R ic5 q5]))
    (h6 : run M 174 [.c (.ptr 0 0 0 0)] [curD R ic5 q5] = some (.c (S tx), [curD R ic6 q6]))
    (h7 : run M 81 [.a (encBox s.b), .c (I (10 + (g : Int))), .c (I f), .c (S tx), .a [I t, I w]] [] = some (.tup [.a (encBoxO b'), .c (.bool ok)], [])) :
    ∃ v1' v2' n', exC (run M) k spec_l06Box.l0 (dbxS R s) = some (.normal, dbxS R ⟨s.i + 1, b', true, s.u2, s.u4, v1', v2', ic6, q6, n'⟩) := by
  have ez : ((0 : Nat) : Int) = 0 := rfl
  obtain ⟨i, b, c, u2, u4, v1, v2, ic, q, n⟩ := s
  simp only at h1 hx he hi
  have e3 : IntKind.i64.wrap ((i : Int) + 1) = (i : Int) + 1 := wrap_i64 (by omega) (by omega)
  have e4 : IntKind.i64.wrap (10 + (g : Int)) = 10 + (g : Int) := wrap_i64 (by omega) (by omega)
  have e7 : (b.mails.map encMail).length = b.mails.length := by simp
  have e8 := irow_length b.gone
  have e9 : (b'.mails.map encMail).length = b'.mails.length := by simp
  have e10 := irow_length b'.gone
  have e11 : (b.mails.map encMail).take b.mails.length = b.mails.map encMail := List.take_of_length_le (by omega)
  have e12 : (irow b.gone).take b.gone.length = irow b.gone := List.take_of_length_le (by omega)
  simp only [dbxS, dbxO, bxM, bxG]
  cases c
  · obtain ⟨em, eg⟩ := he rfl
    simp only [encBox, encBoxO, mails, ints, em, eg, List.map_nil] at h7
    simp only [irow_nil] at h7
    generalize b'.mails.map encMail = rm' at *
    generalize irow b'.gone = rg' at *
    rcases hk with rfl | rfl | rfl
    · simp only [Int.cast_ofNat_Int, ez] at h4
      simp (maxSteps := 1000000) [spec_l06Box.l0, List.range_succ, bs_get, setAt, h1, h2, h3, h4, h5, h6, h7, hx, e3, e4, e7, e8, e9, e10, e11, e12]
    · simp only [Int.cast_ofNat_Int, ez] at h4
      simp (maxSteps := 1000000) [spec_l06Box.l0, List.range_succ, bs_get, setAt, h1, h2, h3, h4, h5, h6, h7, hx, e3, e4, e7, e8, e9, e10, e11, e12]
    · simp only [Int.cast_ofNat_Int, ez] at h4
      simp (maxSteps := 1000000) [spec_l06Box.l0, List.range_succ, bs_get, setAt, h1, h2, h3, h4, h5, h6, h7, hx, e3, e4, e7, e8, e9, e10, e11, e12]
  · simp only [encBox, encBoxO, mails, ints] at h7
    generalize b'.mails.map encMail = rm' at *
    generalize irow b'.gone = rg' at *
    generalize b.mails.map encMail = rm at *
    generalize irow b.gone = rg at *
    rcases hk with rfl | rfl | rfl
    · simp only [Int.cast_ofNat_Int, ez] at h4
      simp (maxSteps := 1000000) [spec_l06Box.l0, List.range_succ, bs_get, setAt, h1, h2, h3, h4, h5, h6, h7, hx, e3, e4, e7, e8, e9, e10, e11, e12]
    · simp only [Int.cast_ofNat_Int, ez] at h4
      simp (maxSteps := 1000000) [spec_l06Box.l0, List.range_succ, bs_get, setAt, h1, h2, h3, h4, h5, h6, h7, hx, e3, e4, e7, e8, e9, e10, e11, e12]
    · simp only [Int.cast_ofNat_Int, ez] at h4
      simp (maxSteps := 1000000) [spec_l06Box.l0, List.range_succ, bs_get, setAt, h1, h2, h3, h4, h5, h6, h7, hx, e3, e4, e7, e8, e9, e10, e11, e12]
set_option maxHeartbeats 4000000 in
theorem bx_flag {R : List (List T)} (s : BxS) (k ic1 ic2 ic3 ic4 ic5 ic6 x g t w k5 f : Nat) (tx : List UInt8) (q1 q2 q3 q4 q5 q6 : Int) (b' : Box) (ok : Bool) (hi : s.i ≤ 11) (hg : g < 9)
    (he : s.c = false → s.b.mails = [] ∧ s.b.gone = [])
    (h1 : run M 125 [.c (.ptr 0 0 0 0), .c (I 12)] [curD R s.ic s.q] = some (.c (I x), [curD R ic1 q1])) (hx : s.i < x)
    (h2 : run M 125 [.c (.ptr 0 0 0 0), .c (I 9)] [curD R ic1 q1] = some (.c (I g), [curD R ic2 q2]))
    (h3 : run M 232 [.c (.ptr 0 0 0 0)] [curD R ic2 q2] = some (.a [I t, I w], [curD R ic3 q3]))
    (h4 : run M 125 [.c (.ptr 0 0 0 0), .c (I 5)] [curD R ic3 q3] = some (.c (I k5), [curD R ic4 q4]))
    (hk : k5 = 3)
    (h5 : run M 125 [.c (.ptr 0 0 0 0), .c (I 8)] [curD R ic4 q4] = some (.c (I f), [curD R ic5 q5]))
    (h7 : run M 84 [.a (encBox s.b), .c (I (10 + (g : Int))), .c (I f), .a [I t, I w]] [] = some (.tup [.a (encBoxO b'), .c (.bool ok)], [])) :
    ∃ v1' v2' n', exC (run M) k spec_l06Box.l0 (dbxS R s) = some (.normal, dbxS R ⟨s.i + 1, b', true, s.u2, s.u4, v1', v2', ic5, q5, n'⟩) := by
  subst hk
  simp only [Int.cast_ofNat_Int] at h4
  obtain ⟨i, b, c, u2, u4, v1, v2, ic, q, n⟩ := s
  simp only at h1 hx he hi
  have e3 : IntKind.i64.wrap ((i : Int) + 1) = (i : Int) + 1 := wrap_i64 (by omega) (by omega)
  have e4 : IntKind.i64.wrap (10 + (g : Int)) = 10 + (g : Int) := wrap_i64 (by omega) (by omega)
  have e7 : (b.mails.map encMail).length = b.mails.length := by simp
  have e8 := irow_length b.gone
  have e9 : (b'.mails.map encMail).length = b'.mails.length := by simp
  have e10 := irow_length b'.gone
  have e11 : (b.mails.map encMail).take b.mails.length = b.mails.map encMail := List.take_of_length_le (by omega)
  have e12 : (irow b.gone).take b.gone.length = irow b.gone := List.take_of_length_le (by omega)
  simp only [dbxS, dbxO, bxM, bxG]
  cases c
  · obtain ⟨em, eg⟩ := he rfl
    simp only [encBox, encBoxO, mails, ints, em, eg, List.map_nil] at h7
    simp only [irow_nil] at h7
    generalize b'.mails.map encMail = rm' at *
    generalize irow b'.gone = rg' at *
    simp (maxSteps := 1000000) [spec_l06Box.l0, List.range_succ, bs_get, setAt, h1, h2, h3, h4, h5, h7, hx, e3, e4, e7, e8, e9, e10, e11, e12]
  · simp only [encBox, encBoxO, mails, ints] at h7
    generalize b'.mails.map encMail = rm' at *
    generalize irow b'.gone = rg' at *
    generalize b.mails.map encMail = rm at *
    generalize irow b.gone = rg at *
    simp (maxSteps := 1000000) [spec_l06Box.l0, List.range_succ, bs_get, setAt, h1, h2, h3, h4, h5, h7, hx, e3, e4, e7, e8, e9, e10, e11, e12]
set_option maxHeartbeats 4000000 in
theorem bx_take {R : List (List T)} (s : BxS) (k ic1 ic2 ic3 ic4 ic5 ic6 x g t w k5 f : Nat) (tx : List UInt8) (q1 q2 q3 q4 q5 q6 : Int) (b' : Box) (ok : Bool) (hi : s.i ≤ 11) (hg : g < 9)
    (he : s.c = false → s.b.mails = [] ∧ s.b.gone = [])
    (h1 : run M 125 [.c (.ptr 0 0 0 0), .c (I 12)] [curD R s.ic s.q] = some (.c (I x), [curD R ic1 q1])) (hx : s.i < x)
    (h2 : run M 125 [.c (.ptr 0 0 0 0), .c (I 9)] [curD R ic1 q1] = some (.c (I g), [curD R ic2 q2]))
    (h3 : run M 232 [.c (.ptr 0 0 0 0)] [curD R ic2 q2] = some (.a [I t, I w], [curD R ic3 q3]))
    (h4 : run M 125 [.c (.ptr 0 0 0 0), .c (I 5)] [curD R ic3 q3] = some (.c (I k5), [curD R ic4 q4]))
    (hk : 3 < k5)
    (h7 : run M 86 [.a (encBox s.b), .c (I (10 + (g : Int)))] [] = some (.tup [.a (encBoxO b'), .c (.bool ok)], [])) :
    ∃ v1' v2' n', exC (run M) k spec_l06Box.l0 (dbxS R s) = some (.normal, dbxS R ⟨s.i + 1, b', true, s.u2, s.u4, v1', v2', ic4, q4, n'⟩) := by
  have d0 : ¬ k5 = 0 := by omega
  have d1 : ¬ k5 = 1 := by omega
  have d2 : ¬ k5 = 2 := by omega
  have d3 : ¬ k5 = 3 := by omega
  have f0 : ¬ (k5 : Int) = 0 := by omega
  have f1 : ¬ (k5 : Int) = 1 := by omega
  have f2 : ¬ (k5 : Int) = 2 := by omega
  have f3 : ¬ (k5 : Int) = 3 := by omega
  obtain ⟨i, b, c, u2, u4, v1, v2, ic, q, n⟩ := s
  simp only at h1 hx he hi
  have e3 : IntKind.i64.wrap ((i : Int) + 1) = (i : Int) + 1 := wrap_i64 (by omega) (by omega)
  have e4 : IntKind.i64.wrap (10 + (g : Int)) = 10 + (g : Int) := wrap_i64 (by omega) (by omega)
  have e7 : (b.mails.map encMail).length = b.mails.length := by simp
  have e8 := irow_length b.gone
  have e9 : (b'.mails.map encMail).length = b'.mails.length := by simp
  have e10 := irow_length b'.gone
  have e11 : (b.mails.map encMail).take b.mails.length = b.mails.map encMail := List.take_of_length_le (by omega)
  have e12 : (irow b.gone).take b.gone.length = irow b.gone := List.take_of_length_le (by omega)
  simp only [dbxS, dbxO, bxM, bxG]
  cases c
  · obtain ⟨em, eg⟩ := he rfl
    simp only [encBox, encBoxO, mails, ints, em, eg, List.map_nil] at h7
    simp only [irow_nil] at h7
    generalize b'.mails.map encMail = rm' at *
    generalize irow b'.gone = rg' at *
    simp (maxSteps := 1000000) [spec_l06Box.l0, List.range_succ, bs_get, setAt, h1, h2, h3, h4, h7, d0, d1, d2, d3, f0, f1, f2, f3, hx, e3, e4, e7, e8, e9, e10, e11, e12]
  · simp only [encBox, encBoxO, mails, ints] at h7
    generalize b'.mails.map encMail = rm' at *
    generalize irow b'.gone = rg' at *
    generalize b.mails.map encMail = rm at *
    generalize irow b.gone = rg at *
    simp (maxSteps := 1000000) [spec_l06Box.l0, List.range_succ, bs_get, setAt, h1, h2, h3, h4, h7, d0, d1, d2, d3, f0, f1, f2, f3, hx, e3, e4, e7, e8, e9, e10, e11, e12]
end Mx

/-
  What is drawn: a box, in full.
-/
namespace Mx
open Go
variable {M : Nat → Option Body}
theorem bx_turn (K : BxK M) {R : List (List T)} (hR : Bytes R) (k : Nat) (s : BxS) (hs : BxI R s) :
    (∃ s', exC (run M) k spec_l06Box.l0 (dbxS R s) = some (.normal, dbxS R s') ∧ BxI R s' ∧ 12 - s'.i < 12 - s.i) ∨
      (∃ r, exC (run M) k spec_l06Box.l0 (dbxS R s) = some r ∧ r.1 ≠ .normal ∧ ∃ s', r = (.exit 0, dbxE R s') ∧ BxI R s') := by
  have hb := hs.b.good.inB
  have hi := hs.i
  obtain ⟨x, ic1, q1, hx, hc1, h1⟩ := spec_l01Below.says K.below hR s.ic s.q hs.c 12 (by omega) (by omega)
  by_cases hlt : s.i < x
  · left
    obtain ⟨g, ic2, q2, hg, hc2, h2⟩ := spec_l01Below.says K.below hR ic1 q1 hc1 9 (by omega) (by omega)
    obtain ⟨t, w, ic3, q3, ht, hw1, hw2, hc3, h3⟩ := spec_l03Stamp.says K.stamp hR ic2 q2 hc2
    obtain ⟨k5, ic4, q4, hk5, hc4, h4⟩ := spec_l01Below.says K.below hR ic3 q3 hc3 5 (by omega) (by omega)
    have hgr : (10 : Int) ≤ 10 + (g : Int) ∧ 10 + (g : Int) ≤ 18 := ⟨by omega, by omega⟩
    by_cases c1 : k5 ≤ 2
    · obtain ⟨f, ic5, q5, hf, hc5, h5⟩ := spec_l01Below.says K.below hR ic4 q4 hc4 8 (by omega) (by omega)
      obtain ⟨tx, ic6, q6, htx, hc6, h6⟩ := spec_l05Text.says K.text hR ic5 q5 hc5
      have h7 := spec_AddMail.says K.add s.b hb (10 + (g : Int)) f tx t w
      obtain ⟨v1', v2', n', hh⟩ := bx_add s k ic1 ic2 ic3 ic4 ic5 ic6 x g t w k5 f tx q1 q2 q3 q4 q5 q6 _ _ hi hg hs.e h1 hlt h2 h3 h4 (by omega) h5 h6 h7
      exact ⟨_, hh, ⟨by simp only; omega, drawn_add hs.b hgr _ _ _ _, hc6, fun h => by cases h⟩, by simp only; omega⟩
    · by_cases c2 : k5 = 3
      · obtain ⟨f, ic5, q5, hf, hc5, h5⟩ := spec_l01Below.says K.below hR ic4 q4 hc4 8 (by omega) (by omega)
        have h7 := spec_FlagMail.says K.flag s.b hb (10 + (g : Int)) f t w
        obtain ⟨v1', v2', n', hh⟩ := bx_flag s k ic1 ic2 ic3 ic4 ic5 0 x g t w k5 f [] q1 q2 q3 q4 q5 0 _ _ hi hg hs.e h1 hlt h2 h3 h4 c2 h5 h7
        exact ⟨_, hh, ⟨by simp only; omega, drawn_flag hs.b _ _ _ _, hc5, fun h => by cases h⟩, by simp only; omega⟩
      · have h7 := spec_TakeOut.says K.take s.b hb (10 + (g : Int))
        obtain ⟨v1', v2', n', hh⟩ := bx_take s k ic1 ic2 ic3 ic4 0 0 x g t w k5 0 [] q1 q2 q3 q4 0 0 _ _ hi hg hs.e h1 hlt h2 h3 h4 (by omega) h7
        exact ⟨_, hh, ⟨by simp only; omega, drawn_take hs.b hgr, hc4, fun h => by cases h⟩, by simp only; omega⟩
  · right
    obtain ⟨n', hh⟩ := bx_end s k ic1 x q1 h1 hlt
    exact ⟨_, hh, by simp, _, rfl, ⟨hs.i, hs.b, hc1, hs.e⟩⟩
def names3 : List (List UInt8) := [[105, 110, 98, 111, 120], [119, 111, 114, 107], [111, 108, 100, 57]]
set_option maxHeartbeats 2000000 in
theorem spec_l06Box.says (h : spec_l06Box.k M) {R : List (List T)} (hR : Bytes R) (i : Nat) (q : Int) (hi : i ≤ R.length) :
    ∃ (b : Box) (i' : Nat) (q' : Int), Drawn 11 b ∧ i' ≤ R.length ∧ run M 154 [.c (.ptr 0 0 0 0)] [curD R i q] = some (.a (encBoxO b), [curD R i' q']) := by
  obtain ⟨h0, ka, kf, kt, kb, kx, kp, ks⟩ := h
  obtain ⟨t, w, ic1, q1, ht, hw1, hw2, hc1, h1⟩ := spec_l03Stamp.says ks hR i q hi
  obtain ⟨nm, ic2, q2, hnm, hc2, h2⟩ := spec_l01Pick.says kp hR ic1 q1 hc1 names3 (by decide) (by decide)
  obtain ⟨y, ic3, q3, hy, hc3, h3⟩ := spec_l01Below.says kb hR ic2 q2 hc2 4 (by omega) (by omega)
  have hname : nameOk nm = true := by
    have : ∀ s ∈ names3, nameOk s = true := by decide
    exact this nm hnm
  have e1 : IntKind.i64.wrap (1 + (y : Int)) = 1 + (y : Int) := wrap_i64 (by omega) (by omega)
  have hG : Drawn 0 { gid := 7, name := nm, time := t, who := w, next := 1 + (y : Int), mails := [], gone := [] } := by
    refine ⟨⟨by simp only; omega, hname, ?_, by simp only; omega, by simp, List.Pairwise.nil, by simp, by simp, by simp, List.Pairwise.nil, List.Pairwise.nil⟩, by simp, by simp, by simp only; omega, by simp⟩
    simp only [stampOk, Bool.and_eq_true]
    exact ⟨inR_iff.2 ⟨by omega, by omega⟩, inR_iff.2 ⟨by omega, by omega⟩⟩
  obtain ⟨r, hr, ⟨⟨j, b, c, u2, u4, v1, v2, ic, q', n⟩, rfl, hI⟩⟩ := loop_ex (f := exC (run M) 13 spec_l06Box.l0) (dbxS R) (BxI R) (fun s => 12 - s.i) (fun r => ∃ s', r = (.exit 0, dbxE R s') ∧ BxI R s')
    (fun s hs => bx_turn ⟨ka, kf, kt, kb, kx, kp, ks⟩ hR 13 s hs) 13 ⟨0, { gid := 7, name := nm, time := t, who := w, next := 1 + (y : Int), mails := [], gone := [] }, false, 2000000, 2000208, 0, 0, ic3, q3, 2000256⟩ ⟨by simp, hG, hc3, fun _ => ⟨rfl, rfl⟩⟩ (by simp)
  obtain ⟨hji, hD, hc, hE⟩ := hI
  simp only at hji hD hc hE
  refine ⟨b, ic, q', hD.mono hji, hc, run_code (b := spec_l06Box.m) h0 ⟨13, ?_⟩⟩
  simp only [names3, List.map_cons, List.map_nil, S, bs] at h2
  simp only [Int.cast_ofNat_Int] at h3
  have e7 : (b.mails.map encMail).length = b.mails.length := by simp
  have e8 := irow_length b.gone
  have e11 : (b.mails.map encMail).take b.mails.length = b.mails.map encMail := List.take_of_length_le (by omega)
  have e12 : (irow b.gone).take b.gone.length = irow b.gone := List.take_of_length_le (by omega)
  simp only [dbxS, dbxE, dbxO, bxM, bxG] at hr
  cases c
  · obtain ⟨em, eg⟩ := hE rfl
    simp at hr
    simp only [encBoxO, em, eg, List.map_nil, irow_nil]
    simp (maxSteps := 1000000) [exB, spec_l06Box.m, spec_l06Box.b, List.range_succ, bs_get, setAt, hr, h1, h2, h3, e1]
  · simp at hr
    simp only [encBoxO]
    generalize b.mails.map encMail = rm at *
    generalize irow b.gone = rg at *
    simp (maxSteps := 1000000) [exB, spec_l06Box.m, spec_l06Box.b, List.range_succ, bs_get, setAt, hr, h1, h2, h3, e1, e7, e8, e11, e12]
theorem spec_DrawBox.says (h : spec_DrawBox.k M) {R : List (List T)} (hR : Bytes R) :
    ∃ b : Box, Drawn 11 b ∧ run M 69 [.c (.sl false 1 R)] [] = some (.a (encBoxO b), []) := by
  obtain ⟨h0, k1, k2⟩ := h
  obtain ⟨q0, h1⟩ := spec_l01New.says k1 hR
  obtain ⟨b, i', q', hD, hi', h2⟩ := spec_l06Box.says k2 hR 0 q0 (Nat.zero_le _)
  have e0 : ((0 : Nat) : Int) = 0 := rfl
  simp only [curD, e0] at h2
  refine ⟨b, hD, run_code (b := spec_DrawBox.m) h0 ⟨0, ?_⟩⟩
  have e7 : (b.mails.map encMail).length = b.mails.length := by simp
  have e8 := irow_length b.gone
  have e11 : (b.mails.map encMail).take b.mails.length = b.mails.map encMail := List.take_of_length_le (by omega)
  have e12 : (irow b.gone).take b.gone.length = irow b.gone := List.take_of_length_le (by omega)
  simp only [encBoxO] at h2 ⊢
  generalize b.mails.map encMail = rm at *
  generalize irow b.gone = rg at *
  simp (maxSteps := 1000000) [exB, spec_DrawBox.m, spec_DrawBox.b, List.range_succ, bs_get, setAt, h1, h2, e7, e8, e11, e12]
end Mx

/-
  What is drawn wildly: numbers, stamps, registers, names.
-/
namespace Mx
open Go
variable {M : Nat → Option Body}
theorem spec_l01PickInt.says (h : spec_l01PickInt.k M) {R : List (List T)} (hR : Bytes R) (i : Nat) (q : Int) (hi : i ≤ R.length) (ns : List Int) (h0 : 0 < ns.length) (hn : ns.length ≤ 256) :
    ∃ (s : Int) (i' : Nat) (q' : Int), s ∈ ns ∧ i' ≤ R.length ∧ run M 179 [.c (.ptr 0 0 0 0), .c (.sl false 1 (ns.map fun s => [I s]))] [curD R i q] = some (.c (I s), [curD R i' q']) := by
  obtain ⟨hm, k1⟩ := h
  obtain ⟨x, i1, q1, hx, hi1, h1⟩ := spec_l01Below.says k1 hR i q hi ns.length h0 (by omega)
  refine ⟨ns[x], i1, q1, List.getElem_mem hx, hi1, ?_⟩
  refine run_code (b := spec_l01PickInt.m) hm ⟨0, ?_⟩
  simp (maxSteps := 1000000) [exB, spec_l01PickInt.m, spec_l01PickInt.b, List.range_succ, bs_get, setAt, h1, hx]
theorem spec_l01Once.says (h : spec_l01Once.k M) {R : List (List T)} (hR : Bytes R) (i : Nat) (q : Int) (hi : i ≤ R.length) (n : Nat) (h0 : 0 < n) (hn : n ≤ 256) :
    ∃ (s : Bool) (i' : Nat) (q' : Int), i' ≤ R.length ∧ run M 175 [.c (.ptr 0 0 0 0), .c (I n)] [curD R i q] = some (.c (.bool s), [curD R i' q']) := by
  obtain ⟨hm, k1⟩ := h
  obtain ⟨x, i1, q1, hx, hi1, h1⟩ := spec_l01Below.says k1 hR i q hi n h0 (by omega)
  refine ⟨decide (x = 0), i1, q1, hi1, ?_⟩
  refine run_code (b := spec_l01Once.m) hm ⟨0, ?_⟩
  simp (maxSteps := 1000000) [exB, spec_l01Once.m, spec_l01Once.b, List.range_succ, bs_get, setAt, h1]
theorem spec_l03Any.says (h : spec_l03Any.k M) {R : List (List T)} (hR : Bytes R) (i : Nat) (q : Int) (hi : i ≤ R.length) :
    ∃ (t w : Int) (i' : Nat) (q' : Int), i' ≤ R.length ∧ run M 177 [.c (.ptr 0 0 0 0)] [curD R i q] = some (.a [I t, I w], [curD R i' q']) := by
  obtain ⟨hm, kb, kp, ks⟩ := h
  obtain ⟨t, w, i1, q1, ht, hw1, hw2, hi1, h1⟩ := spec_l03Stamp.says ks hR i q hi
  obtain ⟨x, i2, q2, hx, hi2, h2⟩ := spec_l01Below.says kb hR i1 q1 hi1 8 (by omega) (by omega)
  simp only [Int.cast_ofNat_Int] at h2
  by_cases c0 : x = 0
  · obtain ⟨s, i3, q3, hs, hi3, h3⟩ := spec_l01PickInt.says kp hR i2 q2 hi2 [-1, 100000, 100001] (by decide) (by decide)
    simp only [List.map_cons, List.map_nil] at h3
    have c1 : (x : Int) = 0 := by omega
    refine ⟨s, w, i3, q3, hi3, run_code (b := spec_l03Any.m) hm ⟨0, ?_⟩⟩
    simp (maxSteps := 1000000) [exB, spec_l03Any.m, spec_l03Any.b, List.range_succ, bs_get, setAt, h1, h2, h3, c0, c1]
  · have d0 : ¬ (x : Int) = 0 := by omega
    by_cases c1 : x = 1
    · obtain ⟨s, i3, q3, hs, hi3, h3⟩ := spec_l01PickInt.says kp hR i2 q2 hi2 [-1, 0, 3] (by decide) (by decide)
      simp only [List.map_cons, List.map_nil] at h3
      have d1 : (x : Int) = 1 := by omega
      refine ⟨t, s, i3, q3, hi3, run_code (b := spec_l03Any.m) hm ⟨0, ?_⟩⟩
      simp (maxSteps := 1000000) [exB, spec_l03Any.m, spec_l03Any.b, List.range_succ, bs_get, setAt, h1, h2, h3, c0, c1, d0, d1]
    · have d1 : ¬ (x : Int) = 1 := by omega
      refine ⟨t, w, i2, q2, hi2, run_code (b := spec_l03Any.m) hm ⟨0, ?_⟩⟩
      simp (maxSteps := 1000000) [exB, spec_l03Any.m, spec_l03Any.b, List.range_succ, bs_get, setAt, h1, h2, c0, c1, d0, d1]
theorem spec_l03Reg.says (h : spec_l03Reg.k M) {R : List (List T)} (hR : Bytes R) (i : Nat) (q : Int) (hi : i ≤ R.length) :
    ∃ (r : Reg) (i' : Nat) (q' : Int), i' ≤ R.length ∧ run M 299 [.c (.ptr 0 0 0 0)] [curD R i q] = some (.a (encReg r), [curD R i' q']) := by
  obtain ⟨hm, ka, kp⟩ := h
  obtain ⟨t, w, i1, q1, hi1, h1⟩ := spec_l03Any.says ka hR i q hi
  obtain ⟨s, i2, q2, hs, hi2, h2⟩ := spec_l01PickInt.says kp hR i1 q1 hi1 [0, 1, 1, 7, -1, 1000000001] (by decide) (by decide)
  simp only [List.map_cons, List.map_nil] at h2
  refine ⟨⟨s, t, w⟩, i2, q2, hi2, run_code (b := spec_l03Reg.m) hm ⟨0, ?_⟩⟩
  simp (maxSteps := 1000000) [exB, spec_l03Reg.m, spec_l03Reg.b, List.range_succ, bs_get, setAt, h1, h2]
def names7 : List (List UInt8) := [[], [97], [97, 98, 99, 57], [116, 119, 101, 108, 118, 101, 115, 105, 103, 110, 115, 57], [116, 104, 105, 114, 116, 101, 101, 110, 115, 105, 103, 110, 115], [65], [97, 32, 98]]
theorem spec_DrawNameOk.says (h : spec_DrawNameOk.k M) {R : List (List T)} (hR : Bytes R) :
    ∃ s : List UInt8, s.length ≤ 13 ∧ run M 87 [.c (.sl false 1 R)] [] = some (.c (S s), []) := by
  obtain ⟨hm, k1, k2⟩ := h
  obtain ⟨q0, h1⟩ := spec_l01New.says k1 hR
  obtain ⟨s, i1, q1, hs, hi1, h2⟩ := spec_l01Pick.says k2 hR 0 q0 (Nat.zero_le _) names7 (by decide) (by decide)
  have e0 : ((0 : Nat) : Int) = 0 := rfl
  refine ⟨s, ?_, ?_⟩
  · have : ∀ s ∈ names7, s.length ≤ 13 := by decide
    exact this s hs
  · simp only [names7, List.map_cons, List.map_nil, S, bs, curD, e0] at h2 ⊢
    refine run_code (b := spec_DrawNameOk.m) hm ⟨0, ?_⟩
    simp (maxSteps := 1000000) [exB, spec_DrawNameOk.m, spec_DrawNameOk.b, List.range_succ, bs_get, setAt, h1, h2]
end Mx

/-
  What is drawn wildly: long texts, flags.
-/
namespace Mx
open Go
variable {M : Nat → Option Body}
structure FgS where
  i : Nat
  l : List Reg
  v : Nat
  ic : Nat
  q : Int
  n : Nat
def fgO (R : List (List T)) (s : FgS) : List (Nat × Ob) := [curD R s.ic s.q, (6, ⟨s.v, 3, true, false, s.l.map encReg⟩)]
def fgS (R : List (List T)) (s : FgS) : St := { t := [(0, .c (.ptr 0 0 0 0)), (3, .c (.row 6 s.v 0 s.i)), (4, .c (I s.i))], o := fgO R s, n := s.n }
def fgE (R : List (List T)) (s : FgS) : St := { t := [(0, .c (.ptr 0 0 0 0)), (3, .c (.row 6 s.v 0 s.i)), (4, .c (I s.i)), (8, .c (.bool false))], o := fgO R s, n := s.n }
structure FgI (R : List (List T)) (s : FgS) : Prop where
  i : s.i ≤ 3
  l : s.l.length = s.i
  c : s.ic ≤ R.length
theorem fg_turn (kb : spec_l01Below.k M) (ks : spec_l03Stamp.k M) {R : List (List T)} (hR : Bytes R) (k : Nat) (s : FgS) (hs : FgI R s) :
    (∃ s', exC (run M) k spec_l04Flags.l0 (fgS R s) = some (.normal, fgS R s') ∧ FgI R s' ∧ 3 - s'.i < 3 - s.i) ∨
      (∃ r, exC (run M) k spec_l04Flags.l0 (fgS R s) = some r ∧ r.1 ≠ .normal ∧ ∃ s', r = (.exit 0, fgE R s') ∧ s'.i = 3 ∧ FgI R s') := by
  obtain ⟨i, l, v, ic, q, n⟩ := s
  obtain ⟨hi, hl, hc⟩ := hs
  simp only at hi hl hc
  obtain ⟨t, w, ic1, q1, ht, hw1, hw2, hc1, h1⟩ := spec_l03Stamp.says ks hR ic q hc
  obtain ⟨x, ic2, q2, hx, hc2, h2⟩ := spec_l01Below.says kb hR ic1 q1 hc1 2 (by omega) (by omega)
  simp only [Int.cast_ofNat_Int] at h2
  by_cases hlt : i < 3
  · left
    have hlt2 : (i : Int) < 3 := by omega
    have e3 : IntKind.i64.wrap ((i : Int) + 1) = (i : Int) + 1 := wrap_i64 (by omega) (by omega)
    have e5 : i + 1 ≤ 4294967296 := by omega
    have e6 : (l ++ [(⟨x, t, w⟩ : Reg)]).map encReg = l.map encReg ++ [[I x, I t, I w]] := by simp
    have e7 : (l.map encReg).length = i := by simp [hl]
    have e8 : (l.map encReg).take i = l.map encReg := List.take_of_length_le (by omega)
    have hh : ∃ v' n', exC (run M) k spec_l04Flags.l0 (fgS R ⟨i, l, v, ic, q, n⟩) = some (.normal, fgS R ⟨i + 1, l ++ [⟨x, t, w⟩], v', ic2, q2, n'⟩) := by
      simp only [fgS, fgO, e6]
      generalize l.map encReg = rl at *
      simp (maxSteps := 1000000) [spec_l04Flags.l0, List.range_succ, bs_get, setAt, h1, h2, hlt, hlt2, e3, e5, e7, e8]
    obtain ⟨v', n', hh⟩ := hh
    exact ⟨_, hh, ⟨by simp only; omega, by simp [hl], hc2⟩, by simp only; omega⟩
  · right
    have hlt2 : ¬ (i : Int) < 3 := by omega
    have hh : ∃ n', exC (run M) k spec_l04Flags.l0 (fgS R ⟨i, l, v, ic, q, n⟩) = some (.exit 0, fgE R ⟨i, l, v, ic, q, n'⟩) := by
      simp only [fgS, fgE, fgO]
      simp (maxSteps := 1000000) [spec_l04Flags.l0, List.range_succ, bs_get, setAt, hlt, hlt2]
    obtain ⟨n', hh⟩ := hh
    exact ⟨_, hh, by simp, _, rfl, by simp only; omega, ⟨hi, hl, hc⟩⟩
theorem spec_l04Flags.says (h : spec_l04Flags.k M) {R : List (List T)} (hR : Bytes R) (i : Nat) (q : Int) (hi : i ≤ R.length) :
    ∃ (l : List Reg) (i' : Nat) (q' : Int), l.length = 3 ∧ i' ≤ R.length ∧ run M 298 [.c (.ptr 0 0 0 0)] [curD R i q] = some (.c (.sl true 3 (l.map encReg)), [curD R i' q']) := by
  obtain ⟨h0, k1, k2⟩ := h
  obtain ⟨r, hr, ⟨⟨j, l, v, ic', q', n⟩, rfl, hj, hI⟩⟩ := loop_ex (f := exC (run M) 4 spec_l04Flags.l0) (fgS R) (FgI R) (fun s => 3 - s.i) (fun r => ∃ s', r = (.exit 0, fgE R s') ∧ s'.i = 3 ∧ FgI R s')
    (fun s hs => fg_turn k1 k2 hR 4 s hs) 4 ⟨0, [], 2000016, i, q, 2000064⟩ ⟨by simp, by simp, hi⟩ (by simp)
  obtain ⟨_, hl, hc'⟩ := hI
  simp only at hj hl hc'
  refine ⟨l, ic', q', by omega, hc', run_code (b := spec_l04Flags.m) h0 ⟨4, ?_⟩⟩
  have e7 : (l.map encReg).length = j := by simp [hl]
  have e8 : (l.map encReg).take j = l.map encReg := List.take_of_length_le (by omega)
  simp only [fgS, fgE, fgO] at hr
  generalize l.map encReg = rl at *
  simp at hr
  simp (maxSteps := 1000000) [exB, spec_l04Flags.m, spec_l04Flags.b, List.range_succ, bs_get, setAt, hr, e7, e8]
end Mx

/-
  What is drawn wildly: lists of flags, mails.
-/
namespace Mx
open Go
variable {M : Nat → Option Body}
theorem spec_l04Any.says (h : spec_l04Any.k M) {R : List (List T)} (hR : Bytes R) (i : Nat) (q : Int) (hi : i ≤ R.length) :
    ∃ (l : List Reg) (i' : Nat) (q' : Int), l.length ≤ 4 ∧ i' ≤ R.length ∧ run M 274 [.c (.ptr 0 0 0 0)] [curD R i q] = some (.c (.sl false 3 (l.map encReg)), [curD R i' q']) := by
  obtain ⟨hm, kb, kf, kr⟩ := h
  obtain ⟨x, i1, q1, hx, hi1, h1⟩ := spec_l01Below.says kb hR i q hi 10 (by omega) (by omega)
  obtain ⟨l, i2, q2, hl, hi2, h2⟩ := spec_l04Flags.says kf hR i1 q1 hi1
  simp only [Int.cast_ofNat_Int] at h1
  have e7 : (l.map encReg).length = 3 := by simp [hl]
  have e8 : (l.map encReg).take 3 = l.map encReg := List.take_of_length_le (by omega)
  by_cases c0 : x = 0
  · have d0 : (x : Int) = 0 := by omega
    have e6 : (l ++ [(⟨0, 0, 0⟩ : Reg)]).map encReg = l.map encReg ++ [[I 0, I 0, I 0]] := by simp
    refine ⟨l ++ [⟨0, 0, 0⟩], i2, q2, by simp [hl], hi2, run_code (b := spec_l04Any.m) hm ⟨0, ?_⟩⟩
    rw [e6]
    generalize l.map encReg = rl at *
    simp (maxSteps := 1000000) [exB, spec_l04Any.m, spec_l04Any.b, List.range_succ, bs_get, setAt, h1, h2, c0, d0, e7, e8, List.take_of_length_le]
  · have d0 : ¬ (x : Int) = 0 := by omega
    by_cases c1 : x = 1
    · have d1 : (x : Int) = 1 := by omega
      have e6 : (l.drop 1).map encReg = (l.map encReg).drop 1 := by simp
      have e9 : ((l.map encReg).drop 1).length = 2 := by simp [hl]
      have e10 : ((l.map encReg).drop 1).take 2 = (l.map encReg).drop 1 := List.take_of_length_le (by omega)
      refine ⟨l.drop 1, i2, q2, by simp [hl], hi2, run_code (b := spec_l04Any.m) hm ⟨0, ?_⟩⟩
      rw [e6]
      generalize l.map encReg = rl at *
      simp (maxSteps := 1000000) [exB, spec_l04Any.m, spec_l04Any.b, List.range_succ, bs_get, setAt, h1, h2, c0, c1, d0, d1, e7, e8, e10]
      simpa using e10
    · have d1 : ¬ (x : Int) = 1 := by omega
      by_cases c2 : x = 2
      · have d2 : (x : Int) = 2 := by omega
        obtain ⟨y, i3, q3, hy, hi3, h3⟩ := spec_l01Below.says kb hR i2 q2 hi2 3 (by omega) (by omega)
        obtain ⟨r, i4, q4, hi4, h4⟩ := spec_l03Reg.says kr hR i3 q3 hi3
        simp only [Int.cast_ofNat_Int] at h3
        have e6 : (l.set y r).map encReg = (l.map encReg).set y [I r.val, I r.time, I r.who] := by rw [List.map_set]
        have e9 : ((l.map encReg).set y [I r.val, I r.time, I r.who]).take 3 = (l.map encReg).set y [I r.val, I r.time, I r.who] := List.take_of_length_le (by simp [hl])
        have e11 : ((l.map encReg)[y]'(by rw [e7]; exact hy)).length = 3 := by rw [List.getElem_map]; rfl
        have e12 : ((l.map encReg)[y]'(by rw [e7]; exact hy)).drop 3 = [] := by rw [List.getElem_map]; rfl
        refine ⟨l.set y r, i4, q4, by simp [hl], hi4, run_code (b := spec_l04Any.m) hm ⟨0, ?_⟩⟩
        rw [e6]
        generalize l.map encReg = rl at *
        simp (maxSteps := 1000000) [exB, spec_l04Any.m, spec_l04Any.b, List.range_succ, bs_get, setAt, h1, h2, h3, h4, c0, c1, c2, d0, d1, d2, e7, e8, e9, e11, e12, hy]
      · have d2 : ¬ (x : Int) = 2 := by omega
        refine ⟨l, i2, q2, by omega, hi2, run_code (b := spec_l04Any.m) hm ⟨0, ?_⟩⟩
        generalize l.map encReg = rl at *
        simp (maxSteps := 1000000) [exB, spec_l04Any.m, spec_l04Any.b, List.range_succ, bs_get, setAt, h1, h2, c0, c1, c2, d0, d1, d2, e7, e8]
theorem spec_l05Mail.says (h : spec_l05Mail.k M) {R : List (List T)} (hR : Bytes R) (i : Nat) (q : Int) (hi : i ≤ R.length) :
    ∃ (m : Mail) (i' : Nat) (q' : Int), m.flags.length = 3 ∧ i' ≤ R.length ∧ m.gid < 10 ∧ run M 273 [.c (.ptr 0 0 0 0)] [curD R i q] = some (.a [I m.gid, I m.uid, .sl true 3 (m.flags.map encReg), S m.text], [curD R i' q']) := by
  obtain ⟨hm, kb, kx, kf⟩ := h
  obtain ⟨x, i1, q1, hx, hi1, h1⟩ := spec_l01Below.says kb hR i q hi 6 (by omega) (by omega)
  obtain ⟨y, i2, q2, hy, hi2, h2⟩ := spec_l01Below.says kb hR i1 q1 hi1 6 (by omega) (by omega)
  obtain ⟨l, i3, q3, hl, hi3, h3⟩ := spec_l04Flags.says kf hR i2 q2 hi2
  obtain ⟨s, i4, q4, hs, hi4, h4⟩ := spec_l05Text.says kx hR i3 q3 hi3
  simp only [Int.cast_ofNat_Int] at h1 h2
  have e1 : IntKind.i64.wrap (1 + (x : Int)) = 1 + (x : Int) := wrap_i64 (by omega) (by omega)
  have e2 : IntKind.i64.wrap (1 + (y : Int)) = 1 + (y : Int) := wrap_i64 (by omega) (by omega)
  have e7 : (l.map encReg).length = 3 := by simp [hl]
  have e8 : (l.map encReg).take 3 = l.map encReg := List.take_of_length_le (by omega)
  refine ⟨⟨1 + x, 1 + y, l, s⟩, i4, q4, hl, hi4, by simp only; omega, run_code (b := spec_l05Mail.m) hm ⟨0, ?_⟩⟩
  simp only
  generalize l.map encReg = rl at *
  simp (maxSteps := 1000000) [exB, spec_l05Mail.m, spec_l05Mail.b, List.range_succ, bs_get, setAt, h1, h2, h3, h4, e1, e2, e7, e8]
end Mx

/-
  What is drawn wildly: long texts, any mail.
-/
namespace Mx
open Go
variable {M : Nat → Option Body}
structure LgS where
  i : Nat
  l : List UInt8
  n : Nat
def lgS (v m : Nat) (s : LgS) : St := { t := [(0, .c (I m)), (1, .c (.int .u8 97)), (5, .c (.row 8 v 0 m)), (6, .c (I s.i))], o := [(8, ⟨v, 1, true, false, brow s.l⟩)], n := s.n }
def lgE (v m : Nat) (s : LgS) : St := { t := [(0, .c (I m)), (1, .c (.int .u8 97)), (5, .c (.row 8 v 0 m)), (6, .c (I s.i)), (11, .c (.bool false))], o := [(8, ⟨v, 1, true, false, brow s.l⟩)], n := s.n }
theorem brow_set (l : List UInt8) (i : Nat) (b : UInt8) : (brow l).set i [.int .u8 (b.toNat : Int)] = brow (l.set i b) := by
  simp [brow, List.map_set]
theorem lg_turn (k v m : Nat) (hm : m ≤ 1000) (s : LgS) (hs : s.i ≤ m ∧ s.l.length = m) :
    (∃ s', exC (run M) k spec_l01Long.l0 (lgS v m s) = some (.normal, lgS v m s') ∧ (s'.i ≤ m ∧ s'.l.length = m) ∧ m - s'.i < m - s.i) ∨
      (∃ r, exC (run M) k spec_l01Long.l0 (lgS v m s) = some r ∧ r.1 ≠ .normal ∧ ∃ s', r = (.exit 0, lgE v m s') ∧ s'.l.length = m) := by
  obtain ⟨i, l, n⟩ := s
  obtain ⟨hi, hl⟩ := hs
  simp only at hi hl
  by_cases hlt : i < m
  · left
    have hlt2 : (i : Int) < (m : Int) := by omega
    have e3 : IntKind.i64.wrap ((i : Int) + 1) = (i : Int) + 1 := wrap_i64 (by omega) (by omega)
    have e7 : (brow l).length = m := by simp [brow, hl]
    have e6 : (brow l).set i [.int .u8 97] = brow (l.set i 97) := brow_set l i 97
    have e8 : ∀ hh, ((brow l)[i]'hh).length = 1 := by intro hh; simp [brow]
    have e9 : ∀ hh, ((brow l)[i]'hh).drop 1 = [] := by intro hh; simp [brow]
    have hh : ∃ n', exC (run M) k spec_l01Long.l0 (lgS v m ⟨i, l, n⟩) = some (.normal, lgS v m ⟨i + 1, l.set i 97, n'⟩) := by
      simp only [lgS, ← e6]
      generalize brow l = rl at *
      simp (maxSteps := 1000000) [spec_l01Long.l0, List.range_succ, bs_get, setAt, hlt, hlt2, e3, e7, e8, e9]
    obtain ⟨n', hh⟩ := hh
    exact ⟨_, hh, ⟨by simp only; omega, by simp [hl]⟩, by simp only; omega⟩
  · right
    have hlt2 : ¬ (i : Int) < (m : Int) := by omega
    have hh : ∃ n', exC (run M) k spec_l01Long.l0 (lgS v m ⟨i, l, n⟩) = some (.exit 0, lgE v m ⟨i, l, n'⟩) := by
      simp only [lgS, lgE]
      simp (maxSteps := 1000000) [spec_l01Long.l0, List.range_succ, bs_get, setAt, hlt, hlt2]
    obtain ⟨n', hh⟩ := hh
    exact ⟨_, hh, by simp, _, rfl, hl⟩
theorem brow_zeros (m : Nat) : brow (List.replicate m 0) = List.replicate m [.int .u8 0] := by simp [brow]
theorem spec_l01Long.says (h : spec_l01Long.k M) (m : Nat) (hm : m ≤ 1000) : ∃ s : List UInt8, s.length = m ∧ run M 176 [.c (I m), .c (.int .u8 97)] [] = some (.c (S s), []) := by
  obtain ⟨r, hr, ⟨⟨j, l, n⟩, rfl, hl⟩⟩ := loop_ex (f := exC (run M) (m + 1) spec_l01Long.l0) (lgS 2000032 m) (fun s => s.i ≤ m ∧ s.l.length = m) (fun s => m - s.i) (fun r => ∃ s', r = (.exit 0, lgE 2000032 m s') ∧ s'.l.length = m)
    (fun s hs => lg_turn (m + 1) 2000032 m hm s hs) (m + 1) ⟨0, List.replicate m 0, 2000080⟩ ⟨by simp, by simp⟩ (by simp)
  simp only at hl
  refine ⟨l, hl, run_code (b := spec_l01Long.m) h ⟨m + 1, ?_⟩⟩
  simp only [lgS, lgE, brow_zeros] at hr
  have e7 : (brow l).length = m := by simp [brow, hl]
  have e8 : (brow l).take m = brow l := List.take_of_length_le (by omega)
  have e9 : m ≤ 4294967296 := by omega
  have e10 : m ≤ 140737488355328 := by omega
  simp at hr
  simp (maxSteps := 1000000) [exB, spec_l01Long.m, spec_l01Long.b, List.range_succ, bs_get, setAt, hr, e7, e8, e9, e10]
end Mx

/-
  What is drawn wildly: any mail, any box.
-/
namespace Mx
open Go
variable {M : Nat → Option Body}
theorem spec_l05Any.says (h : spec_l05Any.k M) {R : List (List T)} (hR : Bytes R) (i : Nat) (q : Int) (hi : i ≤ R.length) :
    ∃ (m : Mail) (i' : Nat) (q' : Int), m.flags.length ≤ 4 ∧ i' ≤ R.length ∧ (m.gid < 10 ∨ 18 < m.gid) ∧ run M 237 [.c (.ptr 0 0 0 0)] [curD R i q] = some (.a [I m.gid, I m.uid, .sl false 3 (m.flags.map encReg), S m.text], [curD R i' q']) := by
  obtain ⟨hm, kb, kl, km, ka⟩ := h
  obtain ⟨x, i1, q1, hx, hi1, h1⟩ := spec_l01Below.says kb hR i q hi 10 (by omega) (by omega)
  obtain ⟨y, i2, q2, hy, hi2, h2⟩ := spec_l01Below.says kb hR i1 q1 hi1 60 (by omega) (by omega)
  obtain ⟨m, i3, q3, hl, hi3, hgid, h3⟩ := spec_l05Mail.says km hR i2 q2 hi2
  simp only [Int.cast_ofNat_Int] at h1 h2
  have e7 : (m.flags.map encReg).length = 3 := by simp [hl]
  by_cases c0 : x = 0
  · have d0 : (x : Int) = 0 := by omega
    obtain ⟨z, hz, ez⟩ := tmod_small y 4 (by omega)
    simp only [Int.cast_ofNat_Int] at ez
    have hz4 : z = 0 ∨ z = 1 ∨ z = 2 ∨ z = 3 := by omega
    rcases hz4 with rfl | rfl | rfl | rfl
    · refine ⟨⟨0, m.uid, m.flags, m.text⟩, i3, q3, by simp only; omega, hi3, by simp only; omega, run_code (b := spec_l05Any.m) hm ⟨0, ?_⟩⟩
      simp only
      generalize m.flags.map encReg = rl at *
      simp (maxSteps := 1000000) [exB, spec_l05Any.m, spec_l05Any.b, List.range_succ, bs_get, setAt, h1, h2, h3, ez, c0, d0, e7]
    · refine ⟨⟨9999, m.uid, m.flags, m.text⟩, i3, q3, by simp only; omega, hi3, by simp only; omega, run_code (b := spec_l05Any.m) hm ⟨0, ?_⟩⟩
      simp only
      generalize m.flags.map encReg = rl at *
      simp (maxSteps := 1000000) [exB, spec_l05Any.m, spec_l05Any.b, List.range_succ, bs_get, setAt, h1, h2, h3, ez, c0, d0, e7]
    · refine ⟨⟨10000, m.uid, m.flags, m.text⟩, i3, q3, by simp only; omega, hi3, by simp only; omega, run_code (b := spec_l05Any.m) hm ⟨0, ?_⟩⟩
      simp only
      generalize m.flags.map encReg = rl at *
      simp (maxSteps := 1000000) [exB, spec_l05Any.m, spec_l05Any.b, List.range_succ, bs_get, setAt, h1, h2, h3, ez, c0, d0, e7]
    · refine ⟨⟨(-1), m.uid, m.flags, m.text⟩, i3, q3, by simp only; omega, hi3, by simp only; omega, run_code (b := spec_l05Any.m) hm ⟨0, ?_⟩⟩
      simp only
      generalize m.flags.map encReg = rl at *
      simp (maxSteps := 1000000) [exB, spec_l05Any.m, spec_l05Any.b, List.range_succ, bs_get, setAt, h1, h2, h3, ez, c0, d0, e7]
  have d0 : ¬ (x : Int) = 0 := by omega
  by_cases c1 : x = 1
  · have d1 : (x : Int) = 1 := by omega
    obtain ⟨z, hz, ez⟩ := tmod_small y 3 (by omega)
    simp only [Int.cast_ofNat_Int] at ez
    have hz4 : z = 0 ∨ z = 1 ∨ z = 2 := by omega
    rcases hz4 with rfl | rfl | rfl
    · refine ⟨⟨m.gid, 0, m.flags, m.text⟩, i3, q3, by simp only; omega, hi3, by simp only; omega, run_code (b := spec_l05Any.m) hm ⟨0, ?_⟩⟩
      simp only
      generalize m.flags.map encReg = rl at *
      simp (maxSteps := 1000000) [exB, spec_l05Any.m, spec_l05Any.b, List.range_succ, bs_get, setAt, h1, h2, h3, ez, c0, d0, c1, d1, e7]
    · refine ⟨⟨m.gid, 9999, m.flags, m.text⟩, i3, q3, by simp only; omega, hi3, by simp only; omega, run_code (b := spec_l05Any.m) hm ⟨0, ?_⟩⟩
      simp only
      generalize m.flags.map encReg = rl at *
      simp (maxSteps := 1000000) [exB, spec_l05Any.m, spec_l05Any.b, List.range_succ, bs_get, setAt, h1, h2, h3, ez, c0, d0, c1, d1, e7]
    · refine ⟨⟨m.gid, 10000, m.flags, m.text⟩, i3, q3, by simp only; omega, hi3, by simp only; omega, run_code (b := spec_l05Any.m) hm ⟨0, ?_⟩⟩
      simp only
      generalize m.flags.map encReg = rl at *
      simp (maxSteps := 1000000) [exB, spec_l05Any.m, spec_l05Any.b, List.range_succ, bs_get, setAt, h1, h2, h3, ez, c0, d0, c1, d1, e7]
  have d1 : ¬ (x : Int) = 1 := by omega
  by_cases c2 : x = 2
  · have d2 : (x : Int) = 2 := by omega
    obtain ⟨fl, i4, q4, hl4, hi4, h4⟩ := spec_l04Any.says ka hR i3 q3 hi3
    refine ⟨⟨m.gid, m.uid, fl, m.text⟩, i4, q4, hl4, hi4, by simp only; omega, run_code (b := spec_l05Any.m) hm ⟨0, ?_⟩⟩
    simp only
    generalize m.flags.map encReg = rl at *
    generalize fl.map encReg = rl2 at *
    simp (maxSteps := 1000000) [exB, spec_l05Any.m, spec_l05Any.b, List.range_succ, bs_get, setAt, h1, h2, h3, h4, c0, d0, c1, d1, c2, d2, e7]
  have d2 : ¬ (x : Int) = 2 := by omega
  by_cases c3 : x = 3
  · have d3 : (x : Int) = 3 := by omega
    obtain ⟨z, hz, ez⟩ := tmod_small y 2 (by omega)
    simp only [Int.cast_ofNat_Int] at ez
    have e9 : IntKind.i64.wrap (60 + (z : Int)) = ((60 + z : Nat) : Int) := wrap_i64 (by omega) (by omega)
    obtain ⟨w, hw⟩ : ∃ w, 60 + z = w := ⟨_, rfl⟩
    rw [hw] at e9
    obtain ⟨s, hs, h4⟩ := spec_l01Long.says kl w (by omega)
    refine ⟨⟨m.gid, m.uid, m.flags, s⟩, i3, q3, by simp only; omega, hi3, by simp only; omega, run_code (b := spec_l05Any.m) hm ⟨0, ?_⟩⟩
    simp only
    generalize m.flags.map encReg = rl at *
    simp (maxSteps := 1000000) [exB, spec_l05Any.m, spec_l05Any.b, List.range_succ, bs_get, setAt, h1, h2, h3, h4, ez, e9, c0, d0, c1, d1, c2, d2, c3, d3, e7]
  have d3 : ¬ (x : Int) = 3 := by omega
  refine ⟨m, i3, q3, by omega, hi3, by omega, run_code (b := spec_l05Any.m) hm ⟨0, ?_⟩⟩
  generalize m.flags.map encReg = rl at *
  simp (maxSteps := 1000000) [exB, spec_l05Any.m, spec_l05Any.b, List.range_succ, bs_get, setAt, h1, h2, h3, c0, d0, c1, d1, c2, d2, c3, d3, e7]
end Mx

/-
  What is drawn wildly: any box.
-/
namespace Mx
open Go
variable {M : Nat → Option Body}
theorem Good.flags {b : Box} (h : Good b) : ∀ m ∈ b.mails, m.flags.length ≤ 4 := fun m hm => by have := (mailOk_vars (h.mail m hm).1).2.2.1; omega
set_option maxHeartbeats 4000000 in
theorem spec_l06Any.says (h : spec_l06Any.k M) {R : List (List T)} (hR : Bytes R) (i : Nat) (q : Int) (hi : i ≤ R.length) :
    ∃ (b : Box) (i' : Nat) (q' : Int), (BoxIn b ∧ b.mails.Pairwise (fun a c => a.gid ≠ c.gid)) ∧ i' ≤ R.length ∧ run M 173 [.c (.ptr 0 0 0 0)] [curD R i q] = some (.a (encBoxO b), [curD R i' q']) := by
  obtain ⟨hm, kb, kx, ks, kc, km⟩ := h
  obtain ⟨x, i1, q1, hx, hi1, h1⟩ := spec_l01Below.says kb hR i q hi 14 (by omega) (by omega)
  obtain ⟨y, i2, q2, hy, hi2, h2⟩ := spec_l01Below.says kb hR i1 q1 hi1 60 (by omega) (by omega)
  obtain ⟨b, i3, q3, hD, hi3, h3⟩ := spec_l06Box.says kx hR i2 q2 hi2
  have hB := hD.good.inB
  have h4 := spec_l06Copy.says kc b hB
  simp only [Int.cast_ofNat_Int] at h1 h2
  have e7 : (b.mails.map encMail).length = b.mails.length := by simp
  have e8 := irow_length b.gone
  have hml := hD.good.len
  have hgl := hD.gl
  have e11 : (b.mails.map encMail).take b.mails.length = b.mails.map encMail := List.take_of_length_le (by omega)
  have e12 : (irow b.gone).take b.gone.length = irow b.gone := List.take_of_length_le (by omega)
  simp only [encBox, encBoxO, mails, ints] at h3 h4 ⊢
  by_cases c0 : x = 0
  · have d0 : (x : Int) = 0 := by omega
    obtain ⟨z, hz, ez⟩ := tmod_small y 3 (by omega)
    simp only [Int.cast_ofNat_Int] at ez
    refine ⟨{ b with gid := z }, i3, q3, ?_, hi3, run_code (b := spec_l06Any.m) hm ⟨0, ?_⟩⟩
    · exact ⟨⟨hB.m, hB.g, hB.n, hB.f⟩, hD.good.gids⟩
    simp only
    generalize b.mails.map encMail = rm at *
    generalize irow b.gone = rg at *
    simp (maxSteps := 1000000) [exB, spec_l06Any.m, spec_l06Any.b, List.range_succ, bs_get, setAt, h1, h2, h3, h4, c0, d0, e7, e8, e11, e12, ez]
  have d0 : ¬ (x : Int) = 0 := by omega
  by_cases c1 : x = 1
  · have d1 : (x : Int) = 1 := by omega
    obtain ⟨z, hz, ez⟩ := tmod_small y 3 (by omega)
    simp only [Int.cast_ofNat_Int] at ez
    have hz4 : z = 0 ∨ z = 1 ∨ z = 2 := by omega
    rcases hz4 with rfl | rfl | rfl
    · skip
      refine ⟨{ b with name := [] }, i3, q3, ?_, hi3, run_code (b := spec_l06Any.m) hm ⟨0, ?_⟩⟩
      · exact ⟨⟨hB.m, hB.g, by simp, hB.f⟩, hD.good.gids⟩
      simp only
      generalize b.mails.map encMail = rm at *
      generalize irow b.gone = rg at *
      simp (maxSteps := 1000000) [exB, spec_l06Any.m, spec_l06Any.b, List.range_succ, bs_get, setAt, h1, h2, h3, h4, c0, d0, c1, d1, e7, e8, e11, e12, ez]
    · skip
      refine ⟨{ b with name := [65] }, i3, q3, ?_, hi3, run_code (b := spec_l06Any.m) hm ⟨0, ?_⟩⟩
      · exact ⟨⟨hB.m, hB.g, by simp, hB.f⟩, hD.good.gids⟩
      simp only
      generalize b.mails.map encMail = rm at *
      generalize irow b.gone = rg at *
      simp (maxSteps := 1000000) [exB, spec_l06Any.m, spec_l06Any.b, List.range_succ, bs_get, setAt, h1, h2, h3, h4, c0, d0, c1, d1, e7, e8, e11, e12, ez]
    · skip
      refine ⟨{ b with name := [116, 104, 105, 114, 116, 101, 101, 110, 115, 105, 103, 110, 115] }, i3, q3, ?_, hi3, run_code (b := spec_l06Any.m) hm ⟨0, ?_⟩⟩
      · exact ⟨⟨hB.m, hB.g, by simp, hB.f⟩, hD.good.gids⟩
      simp only
      generalize b.mails.map encMail = rm at *
      generalize irow b.gone = rg at *
      simp (maxSteps := 1000000) [exB, spec_l06Any.m, spec_l06Any.b, List.range_succ, bs_get, setAt, h1, h2, h3, h4, c0, d0, c1, d1, e7, e8, e11, e12, ez]
  have d1 : ¬ (x : Int) = 1 := by omega
  by_cases c2 : x = 2
  · have d2 : (x : Int) = 2 := by omega
    obtain ⟨z, hz, ez⟩ := tmod_small y 5 (by omega)
    simp only [Int.cast_ofNat_Int] at ez
    refine ⟨{ b with next := z }, i3, q3, ?_, hi3, run_code (b := spec_l06Any.m) hm ⟨0, ?_⟩⟩
    · exact ⟨⟨hB.m, hB.g, hB.n, hB.f⟩, hD.good.gids⟩
    simp only
    generalize b.mails.map encMail = rm at *
    generalize irow b.gone = rg at *
    simp (maxSteps := 1000000) [exB, spec_l06Any.m, spec_l06Any.b, List.range_succ, bs_get, setAt, h1, h2, h3, h4, c0, d0, c1, d1, c2, d2, e7, e8, e11, e12, ez]
  have d2 : ¬ (x : Int) = 2 := by omega
  by_cases c3 : x = 3
  · have d3 : (x : Int) = 3 := by omega
    obtain ⟨m, i4, q4, hl4, hi4, hgid, h5⟩ := spec_l05Any.says km hR i3 q3 hi3
    have e13 : b.mails.length + 1 ≤ 4294967296 := by omega
    have e14 : (b.mails ++ [m]).map encMail = b.mails.map encMail ++ [[I m.gid, I m.uid, .sl false 3 (m.flags.map encReg), S m.text]] := by simp
    refine ⟨{ b with mails := b.mails ++ [m] }, i4, q4, ?_, hi4, run_code (b := spec_l06Any.m) hm ⟨0, ?_⟩⟩
    · refine ⟨⟨by simp; omega, hB.g, hB.n, fun m' hm' => ?_⟩, List.pairwise_append.2 ⟨hD.good.gids, List.pairwise_singleton _ _, fun a ha c hc => by
        simp only [List.mem_singleton] at hc; subst hc; have := hD.m a ha; omega⟩⟩
      rcases List.mem_append.1 hm' with w | w
      · exact hB.f m' w
      · simp only [List.mem_singleton] at w; subst w; omega
    simp only
    rw [e14]
    generalize m.flags.map encReg = rl at *
    generalize b.mails.map encMail = rm at *
    generalize irow b.gone = rg at *
    simp (maxSteps := 1000000) [exB, spec_l06Any.m, spec_l06Any.b, List.range_succ, bs_get, setAt, h1, h2, h3, h4, h5, c0, d0, c1, d1, c2, d2, c3, d3, e7, e8, e11, e12, e13]
    exact List.take_of_length_le (by simp; omega)
  have d3 : ¬ (x : Int) = 3 := by omega
  by_cases c4 : x = 4
  · have d4 : (x : Int) = 4 := by omega
    have e13 : b.gone.length + 1 ≤ 4294967296 := by omega
    have e14 : irow (b.gone ++ [(y : Int)]) = irow b.gone ++ [[I y]] := irow_snoc b.gone y
    refine ⟨{ b with gone := b.gone ++ [(y : Int)] }, i3, q3, ?_, hi3, run_code (b := spec_l06Any.m) hm ⟨0, ?_⟩⟩
    · exact ⟨⟨hB.m, by simp; omega, hB.n, hB.f⟩, hD.good.gids⟩
    simp only
    rw [e14]
    generalize b.mails.map encMail = rm at *
    generalize irow b.gone = rg at *
    simp (maxSteps := 1000000) [exB, spec_l06Any.m, spec_l06Any.b, List.range_succ, bs_get, setAt, h1, h2, h3, h4, c0, d0, c1, d1, c2, d2, c3, d3, c4, d4, e7, e8, e11, e12, e13]
    exact List.take_of_length_le (by simp; omega)
  have d4 : ¬ (x : Int) = 4 := by omega
  by_cases c5 : x = 5
  · have d5 : (x : Int) = 5 := by omega
    obtain ⟨t, w, i4, q4, hi4, h5⟩ := spec_l03Any.says ks hR i3 q3 hi3
    refine ⟨{ b with time := t, who := w }, i4, q4, ?_, hi4, run_code (b := spec_l06Any.m) hm ⟨0, ?_⟩⟩
    · exact ⟨⟨hB.m, hB.g, hB.n, hB.f⟩, hD.good.gids⟩
    simp only
    generalize b.mails.map encMail = rm at *
    generalize irow b.gone = rg at *
    simp (maxSteps := 1000000) [exB, spec_l06Any.m, spec_l06Any.b, List.range_succ, bs_get, setAt, h1, h2, h3, h4, h5, c0, d0, c1, d1, c2, d2, c3, d3, c4, d4, c5, d5, e7, e8, e11, e12]
  have d5 : ¬ (x : Int) = 5 := by omega
  refine ⟨b, i3, q3, ?_, hi3, run_code (b := spec_l06Any.m) hm ⟨0, ?_⟩⟩
  · exact ⟨hB, hD.good.gids⟩
  generalize b.mails.map encMail = rm at *
  generalize irow b.gone = rg at *
  simp (maxSteps := 1000000) [exB, spec_l06Any.m, spec_l06Any.b, List.range_succ, bs_get, setAt, h1, h2, h3, h4, c0, d0, c1, d1, c2, d2, c3, d3, c4, d4, c5, d5, e7, e8, e11, e12]
end Mx

/-
  What is drawn wildly: what the law of told boxes draws.
-/
namespace Mx
open Go
variable {M : Nat → Option Body}
theorem spec_DrawBoxOk.says (h : spec_DrawBoxOk.k M) {R : List (List T)} (hR : Bytes R) :
    ∃ b : Box, BoxIn b ∧ run M 79 [.c (.sl false 1 R)] [] = some (.a (encBoxO b), []) := by
  obtain ⟨h0, k1, k2⟩ := h
  obtain ⟨q0, h1⟩ := spec_l01New.says k1 hR
  obtain ⟨b, i', q', ⟨hB, hN⟩, hi', h2⟩ := spec_l06Any.says k2 hR 0 q0 (Nat.zero_le _)
  have e0 : ((0 : Nat) : Int) = 0 := rfl
  simp only [curD, e0] at h2
  refine ⟨b, hB, run_code (b := spec_DrawBoxOk.m) h0 ⟨0, ?_⟩⟩
  have e7 : (b.mails.map encMail).length = b.mails.length := by simp
  have e8 := irow_length b.gone
  have e11 : (b.mails.map encMail).take b.mails.length = b.mails.map encMail := List.take_of_length_le (by omega)
  have e12 : (irow b.gone).take b.gone.length = irow b.gone := List.take_of_length_le (by omega)
  simp only [encBoxO] at h2 ⊢
  generalize b.mails.map encMail = rm at *
  generalize irow b.gone = rg at *
  simp (maxSteps := 1000000) [exB, spec_DrawBoxOk.m, spec_DrawBoxOk.b, List.range_succ, bs_get, setAt, h1, h2, e7, e8, e11, e12]
theorem spec_l06Pair.says (h : spec_l06Pair.k M) {R : List (List T)} (hR : Bytes R) :
    ∃ (b : Box) (g : Int), BoxIn b ∧ run M 178 [.c (.sl false 1 R)] [] = some (.tup [.a (encBoxO b), .c (I g)], []) := by
  obtain ⟨h0, k1, k3, k2⟩ := h
  obtain ⟨q0, h1⟩ := spec_l01New.says k1 hR
  obtain ⟨x, i1, q1, hx, hi1, h3⟩ := spec_l01Below.says k3 hR 0 q0 (Nat.zero_le _) 9 (by omega) (by omega)
  obtain ⟨b, i', q', ⟨hB, hN⟩, hi', h2⟩ := spec_l06Any.says k2 hR i1 q1 hi1
  have e0 : ((0 : Nat) : Int) = 0 := rfl
  have e1 : IntKind.i64.wrap (10 + (x : Int)) = 10 + (x : Int) := wrap_i64 (by omega) (by omega)
  simp only [curD, e0, Int.cast_ofNat_Int] at h2 h3
  refine ⟨b, 10 + x, hB, run_code (b := spec_l06Pair.m) h0 ⟨0, ?_⟩⟩
  have e7 : (b.mails.map encMail).length = b.mails.length := by simp
  have e8 := irow_length b.gone
  have e11 : (b.mails.map encMail).take b.mails.length = b.mails.map encMail := List.take_of_length_le (by omega)
  have e12 : (irow b.gone).take b.gone.length = irow b.gone := List.take_of_length_le (by omega)
  simp only [encBoxO] at h2 ⊢
  generalize b.mails.map encMail = rm at *
  generalize irow b.gone = rg at *
  simp (maxSteps := 1000000) [exB, spec_l06Pair.m, spec_l06Pair.b, List.range_succ, bs_get, setAt, h1, h2, h3, e1, e7, e8, e11, e12]
theorem spec_DrawTakeOut.says (h : spec_DrawTakeOut.k M) {R : List (List T)} (hR : Bytes R) :
    ∃ (b : Box) (g : Int), BoxIn b ∧ run M 85 [.c (.sl false 1 R)] [] = some (.tup [.a (encBoxO b), .c (I g)], []) := by
  obtain ⟨h0, k1⟩ := h
  obtain ⟨b, g, hB, h1⟩ := spec_l06Pair.says k1 hR
  refine ⟨b, g, hB, run_code (b := spec_DrawTakeOut.m) h0 ⟨0, ?_⟩⟩
  have e7 : (b.mails.map encMail).length = b.mails.length := by simp
  have e8 := irow_length b.gone
  have e11 : (b.mails.map encMail).take b.mails.length = b.mails.map encMail := List.take_of_length_le (by omega)
  have e12 : (irow b.gone).take b.gone.length = irow b.gone := List.take_of_length_le (by omega)
  simp only [encBoxO] at h1 ⊢
  generalize b.mails.map encMail = rm at *
  generalize irow b.gone = rg at *
  simp (maxSteps := 1000000) [exB, spec_DrawTakeOut.m, spec_DrawTakeOut.b, List.range_succ, bs_get, setAt, h1, e7, e8, e11, e12]
theorem spec_DrawFlagMail.says (h : spec_DrawFlagMail.k M) {R : List (List T)} (hR : Bytes R) :
    ∃ (b : Box) (g n t w : Int), BoxIn b ∧ run M 82 [.c (.sl false 1 R)] [] = some (.tup [.a (encBoxO b), .c (I g), .c (I n), .a [I t, I w]], []) := by
  obtain ⟨h0, k1, k2, k3, k4⟩ := h
  obtain ⟨q0, h1⟩ := spec_l01New.says k1 hR
  obtain ⟨x, i1, q1, hx, hi1, h2⟩ := spec_l01Below.says k2 hR 0 q0 (Nat.zero_le _) 10 (by omega) (by omega)
  obtain ⟨t, w, i2, q2, hi2, h3⟩ := spec_l03Any.says k3 hR i1 q1 hi1
  obtain ⟨b, g, hB, h4⟩ := spec_l06Pair.says k4 hR
  have e0 : ((0 : Nat) : Int) = 0 := rfl
  have e1 : IntKind.i64.wrap ((x : Int) - 1) = (x : Int) - 1 := wrap_i64 (by omega) (by omega)
  simp only [curD, e0, Int.cast_ofNat_Int] at h2 h3
  refine ⟨b, g, x - 1, t, w, hB, run_code (b := spec_DrawFlagMail.m) h0 ⟨0, ?_⟩⟩
  have e7 : (b.mails.map encMail).length = b.mails.length := by simp
  have e8 := irow_length b.gone
  have e11 : (b.mails.map encMail).take b.mails.length = b.mails.map encMail := List.take_of_length_le (by omega)
  have e12 : (irow b.gone).take b.gone.length = irow b.gone := List.take_of_length_le (by omega)
  simp only [encBoxO] at h4 ⊢
  generalize b.mails.map encMail = rm at *
  generalize irow b.gone = rg at *
  simp (maxSteps := 1000000) [exB, spec_DrawFlagMail.m, spec_DrawFlagMail.b, List.range_succ, bs_get, setAt, h1, h2, h3, h4, e1, e7, e8, e11, e12]
set_option maxHeartbeats 2000000 in
theorem spec_DrawAddMail.says (h : spec_DrawAddMail.k M) {R : List (List T)} (hR : Bytes R) :
    ∃ (b : Box) (g f : Int) (s : List UInt8) (t w : Int), BoxIn b ∧ run M 80 [.c (.sl false 1 R)] [] = some (.tup [.a (encBoxO b), .c (I g), .c (I f), .c (S s), .a [I t, I w]], []) := by
  obtain ⟨h0, k1, k2, kx, ko, kl, k3, k4, kp⟩ := h
  obtain ⟨q0, h1⟩ := spec_l01New.says k1 hR
  obtain ⟨x, i1, q1, hx, hi1, h2⟩ := spec_l01Below.says k2 hR 0 q0 (Nat.zero_le _) 10 (by omega) (by omega)
  obtain ⟨s, i2, q2, hs, hi2, h3⟩ := spec_l05Text.says kx hR i1 q1 hi1
  obtain ⟨o, i3, q3, hi3, h5⟩ := spec_l01Once.says ko hR i2 q2 hi2 10 (by omega) (by omega)
  obtain ⟨s2, hs2, h6⟩ := spec_l01Long.says kl 61 (by omega)
  obtain ⟨t, w, i4, q4, hi4, h7⟩ := spec_l03Any.says k3 hR i3 q3 hi3
  obtain ⟨b, g, hB, h4⟩ := spec_l06Pair.says k4 hR
  obtain ⟨o2, i5, q5, hi5, h8⟩ := spec_l01Once.says ko hR i4 q4 hi4 10 (by omega) (by omega)
  obtain ⟨g2, i6, q6, hg2, hi6, h9⟩ := spec_l01PickInt.says kp hR i5 q5 hi5 [0, 10000] (by decide) (by decide)
  have e0 : ((0 : Nat) : Int) = 0 := rfl
  have e1 : IntKind.i64.wrap ((x : Int) - 1) = (x : Int) - 1 := wrap_i64 (by omega) (by omega)
  simp only [curD, e0, Int.cast_ofNat_Int, List.map_cons, List.map_nil] at h2 h3 h5 h6 h7 h8 h9
  refine ⟨b, if o2 = true then g2 else g, x - 1, if o = true then s2 else s, t, w, hB, run_code (b := spec_DrawAddMail.m) h0 ⟨0, ?_⟩⟩
  have e7 : (b.mails.map encMail).length = b.mails.length := by simp
  have e8 := irow_length b.gone
  have e11 : (b.mails.map encMail).take b.mails.length = b.mails.map encMail := List.take_of_length_le (by omega)
  have e12 : (irow b.gone).take b.gone.length = irow b.gone := List.take_of_length_le (by omega)
  simp only [encBoxO] at h4 ⊢
  generalize b.mails.map encMail = rm at *
  generalize irow b.gone = rg at *
  cases o <;> cases o2 <;> simp (maxSteps := 1000000) [exB, spec_DrawAddMail.m, spec_DrawAddMail.b, List.range_succ, bs_get, setAt, h1, h2, h3, h4, h5, h6, h7, h8, h9, e1, e7, e8, e11, e12]
end Mx

/-
  What is the same: mails, boxes, stores; the law of Alike.
-/
namespace Mx
open Go
variable {M : Nat → Option Body}
deriving instance DecidableEq for Reg
deriving instance DecidableEq for Mail
deriving instance DecidableEq for Box
/-- two lists of one length, element by element -/
theorem eq_loop {α : Type} [DecidableEq α] (la lb : List α) (hl : la.length = lb.length) {f : St → Option (Out × St)} {β : Type} (S : Nat → β → St) (c e : Nat) (E : β → St)
    (h1 : ∀ i (h : i < la.length) (h' : i < lb.length) x, la[i] = lb[i] → ∃ y, f (S i x) = some (.normal, S (i + 1) y))
    (h2 : ∀ i (h : i < la.length) (h' : i < lb.length) x, ¬ la[i] = lb[i] → ∃ n, f (S i x) = some (.ret, { t := [(c, .c (.bool false))], o := [], n := n }))
    (h3 : ∀ x, ∃ y, f (S la.length x) = some (.exit e, E y)) :
    ∃ g : β → β × Nat, ∀ x, loopN f (la.length + 1) (S 0 x) = some (if la = lb then (.exit e, E (g x).1) else (.ret, { t := [(c, .c (.bool false))], o := [], n := (g x).2 })) := by
  have key := loop_all (f := f) S (fun i => i ≤ la.length) (fun i => la.length - i) (fun i => decide (la.drop i = lb.drop i))
    (fun q (m : β × Nat) => if q = true then (.exit e, E m.1) else (.ret, { t := [(c, .c (.bool false))], o := [], n := m.2 })) (by
      intro i x hi
      by_cases hlt : i < la.length
      · have hlt' : i < lb.length := by omega
        have hd : (la.drop i = lb.drop i) ↔ (la[i] = lb[i] ∧ la.drop (i + 1) = lb.drop (i + 1)) := by
          rw [List.drop_eq_getElem_cons hlt, List.drop_eq_getElem_cons hlt', List.cons.injEq]
        by_cases c' : la[i] = lb[i]
        · obtain ⟨y, hy⟩ := h1 i hlt hlt' x c'
          exact .inl ⟨i + 1, y, hy, hlt, by omega, by rw [decide_eq_decide, hd]; simp [c']⟩
        · obtain ⟨n, hn⟩ := h2 i hlt hlt' x c'
          have hf : decide (la.drop i = lb.drop i) = false := decide_eq_false fun q => c' (hd.1 q).1
          exact .inr ⟨(x, n), by rw [hn, hf]; simp, by rw [hf]; simp⟩
      · have : i = la.length := by omega
        subst this
        obtain ⟨y, hy⟩ := h3 x
        have hd : lb.drop la.length = [] := List.drop_eq_nil_of_le (by omega)
        exact .inr ⟨(y, 0), by rw [hy]; simp [hd], by simp [hd]⟩) (la.length + 1) 0 (Nat.zero_le _) (by omega)
  obtain ⟨g, hg⟩ := key
  refine ⟨g, fun x => ?_⟩
  rw [hg x]
  simp only [List.drop_zero, decide_eq_true_eq]
theorem reg_ext {x y : Reg} (h1 : x.val = y.val) (h2 : x.time = y.time) (h3 : x.who = y.who) : x = y := by
  cases x; cases y; simp_all
theorem mail_ext {x y : Mail} (h1 : x.gid = y.gid) (h2 : x.uid = y.uid) (h3 : x.flags = y.flags) (h4 : x.text = y.text) : x = y := by
  cases x; cases y; simp_all
theorem box_ext {x y : Box} (h1 : x.gid = y.gid) (h2 : x.name = y.name) (h3 : x.time = y.time) (h3' : x.who = y.who) (h4 : x.next = y.next) (h5 : x.mails = y.mails) (h6 : x.gone = y.gone) : x = y := by
  cases x; cases y; simp_all

/-! ## mails -/
def smS (a b : Mail) (i : Nat) (x : Nat × Nat × Nat) : St := { t := [(2, .c (.ptr 2 x.1 0 0)), (3, .c (.ptr 3 x.2.1 0 0)), (5, .c (I i))], o := [(2, ⟨x.1, 4, true, true, [encMail a]⟩), (3, ⟨x.2.1, 4, true, true, [encMail b]⟩)], n := x.2.2 }
def smE (a b : Mail) (x : Nat × Nat × Nat) : St := { t := [(2, .c (.ptr 2 x.1 0 0)), (3, .c (.ptr 3 x.2.1 0 0)), (5, .c (I a.flags.length)), (38, .c (.bool false))], o := [(2, ⟨x.1, 4, true, true, [encMail a]⟩), (3, ⟨x.2.1, 4, true, true, [encMail b]⟩)], n := x.2.2 }
theorem spec_SameMail.says (h : spec_SameMail.k M) (a b : Mail) (ha : a.flags.length ≤ 1048576) : run M 159 [.a (encMail a), .a (encMail b)] [] = some (.c (.bool (decide (a = b))), []) := by
  refine run_code (b := spec_SameMail.m) h ⟨a.flags.length + 1, ?_⟩
  by_cases c1 : a.gid = b.gid
  rotate_left
  · have hne : ¬ a = b := fun q => c1 (by rw [q])
    simp [exB, spec_SameMail.m, spec_SameMail.b, List.range_succ, c1, hne]
  by_cases c2 : a.uid = b.uid
  rotate_left
  · have hne : ¬ a = b := fun q => c2 (by rw [q])
    simp [exB, spec_SameMail.m, spec_SameMail.b, List.range_succ, c1, c2, hne]
  by_cases c3 : a.text = b.text
  rotate_left
  · have hne : ¬ a = b := fun q => c3 (by rw [q])
    simp [exB, spec_SameMail.m, spec_SameMail.b, List.range_succ, c1, c2, c3, hne]
  by_cases c4 : a.flags.length = b.flags.length
  rotate_left
  · have hne : ¬ a = b := fun q => c4 (by rw [q])
    have c4' : ¬ (a.flags.length : Int) = b.flags.length := by omega
    simp [exB, spec_SameMail.m, spec_SameMail.b, List.range_succ, c1, c2, c3, c4, c4', hne]
  obtain ⟨g, hr⟩ := eq_loop a.flags b.flags c4 (f := exC (run M) (a.flags.length + 1) spec_SameMail.l0) (smS a b) 4 0 (smE a b)
    (fun i hi hi' x c => by
      obtain ⟨v, w, x⟩ := x
      have e5 : IntKind.i64.wrap ((i : Int) + 1) = (i : Int) + 1 := wrap_i64 (by omega) (by omega)
      simp only [Prod.exists]
      simp [smS, spec_SameMail.l0, hi, hi', e5, encReg, eqL, eqT, c])
    (fun i hi hi' x c => by
      obtain ⟨v, w, x⟩ := x
      by_cases q1 : a.flags[i].val = b.flags[i].val <;> by_cases q2 : a.flags[i].time = b.flags[i].time <;> by_cases q3 : a.flags[i].who = b.flags[i].who <;>
        first
        | exact absurd (reg_ext q1 q2 q3) c
        | simp [smS, spec_SameMail.l0, hi, hi', encReg, eqL, eqT, q1, q2, q3])
    (fun x => by
      obtain ⟨v, w, x⟩ := x
      simp only [Prod.exists]
      simp [smS, smE, spec_SameMail.l0])
  by_cases c5 : a.flags = b.flags
  · have he : a = b := mail_ext c1 c2 c5 c3
    simp only [c5, if_true] at hr
    simp [smS, smE, encMail, ← c5] at hr
    subst he
    simp [exB, spec_SameMail.m, spec_SameMail.b, List.range_succ, hr]
  · have hne : ¬ a = b := fun q => c5 (by rw [q])
    simp only [c5, if_false] at hr
    simp [smS, smE, encMail, c1, c2, c3, c4] at hr
    simp [exB, spec_SameMail.m, spec_SameMail.b, List.range_succ, encMail, c1, c2, c3, c4, hr, hne]

def seS (a b : List Reg) (i : Nat) (x : Nat) : St := { t := [(0, .c (regs a)), (1, .c (regs b)), (12, .c (I a.length)), (13, .c (I i))], o := [], n := x }
def seE (a b : List Reg) (x : Nat) : St := { t := [(0, .c (regs a)), (1, .c (regs b)), (12, .c (I a.length)), (13, .c (I a.length)), (14, .c (.bool false))], o := [], n := x }
theorem slices_Equal_impl_Reg_impl_Reg.says (h : slices_Equal_impl_Reg_impl_Reg.k M) (a b : List Reg) (ha : a.length ≤ 1048576) : run M 253 [.c (regs a), .c (regs b)] [] = some (.c (.bool (decide (a = b))), []) := by
  refine run_code (b := slices_Equal_impl_Reg_impl_Reg.m) h ⟨a.length + 1, ?_⟩
  by_cases c4 : a.length = b.length
  rotate_left
  · have hne : ¬ a = b := fun q => c4 (by rw [q])
    have c4' : ¬ (a.length : Int) = b.length := by omega
    simp [exB, slices_Equal_impl_Reg_impl_Reg.m, slices_Equal_impl_Reg_impl_Reg.b, List.range_succ, c4, c4', hne]
  obtain ⟨g, hr⟩ := eq_loop a b c4 (f := exC (run M) (a.length + 1) slices_Equal_impl_Reg_impl_Reg.l0) (seS a b) 4 0 (seE a b)
    (fun i hi hi' x c => by
      have e5 : IntKind.i64.wrap ((i : Int) + 1) = (i : Int) + 1 := wrap_i64 (by omega) (by omega)
      simp [seS, slices_Equal_impl_Reg_impl_Reg.l0, hi, hi', e5, encReg, eqL, eqT, c])
    (fun i hi hi' x c => by
      by_cases q1 : a[i].val = b[i].val <;> by_cases q2 : a[i].time = b[i].time <;> by_cases q3 : a[i].who = b[i].who <;>
        first
        | exact absurd (reg_ext q1 q2 q3) c
        | simp [seS, slices_Equal_impl_Reg_impl_Reg.l0, hi, hi', encReg, eqL, eqT, q1, q2, q3])
    (fun x => by simp [seS, seE, slices_Equal_impl_Reg_impl_Reg.l0])
  by_cases c5 : a = b
  · subst c5
    simp [seS, seE] at hr
    simp [exB, slices_Equal_impl_Reg_impl_Reg.m, slices_Equal_impl_Reg_impl_Reg.b, List.range_succ, hr]
  · simp [seS, seE, c5] at hr
    simp only [c4] at hr
    simp [exB, slices_Equal_impl_Reg_impl_Reg.m, slices_Equal_impl_Reg_impl_Reg.b, List.range_succ, hr, c4, c5]
def alsS (a b : List Int) (i : Nat) (x : Nat) : St := { t := [(0, .c (ints a)), (1, .c (ints b)), (12, .c (I a.length)), (13, .c (I i))], o := [], n := x }
def alsE (a b : List Int) (x : Nat) : St := { t := [(0, .c (ints a)), (1, .c (ints b)), (12, .c (I a.length)), (13, .c (I a.length)), (14, .c (.bool false))], o := [], n := x }
theorem slices_Equal_int_int.says (h : slices_Equal_int_int.k M) (a b : List Int) (ha : a.length ≤ 1048576) : run M 120 [.c (ints a), .c (ints b)] [] = some (.c (.bool (decide (a = b))), []) := by
  refine run_code (b := slices_Equal_int_int.m) h ⟨a.length + 1, ?_⟩
  by_cases c4 : a.length = b.length
  rotate_left
  · have hne : ¬ a = b := fun q => c4 (by rw [q])
    have c4' : ¬ (a.length : Int) = b.length := by omega
    simp [exB, slices_Equal_int_int.m, slices_Equal_int_int.b, List.range_succ, c4, c4', hne]
  obtain ⟨g, hr⟩ := eq_loop a b c4 (f := exC (run M) (a.length + 1) slices_Equal_int_int.l0) (alsS a b) 4 0 (alsE a b)
    (fun i hi hi' x c => by
      have e5 : IntKind.i64.wrap ((i : Int) + 1) = (i : Int) + 1 := wrap_i64 (by omega) (by omega)
      simp [alsS, slices_Equal_int_int.l0, hi, hi', e5, c])
    (fun i hi hi' x c => by simp [alsS, slices_Equal_int_int.l0, hi, hi', c])
    (fun x => by simp [alsS, alsE, slices_Equal_int_int.l0])
  by_cases c5 : a = b
  · subst c5
    simp [alsS, alsE] at hr
    simp [exB, slices_Equal_int_int.m, slices_Equal_int_int.b, List.range_succ, hr]
  · simp [alsS, alsE, c5] at hr
    simp only [c4] at hr
    simp [exB, slices_Equal_int_int.m, slices_Equal_int_int.b, List.range_succ, hr, c4, c5]
theorem impl_SameMail.says (h : impl_SameMail.k M) (a b : Mail) (ha : a.flags.length ≤ 1048576) : run M 212 [.a (encMail a), .a (encMail b)] [] = some (.c (.bool (decide (a = b))), []) := by
  have h1 := slices_Equal_impl_Reg_impl_Reg.says h.2 a.flags b.flags ha
  refine run_code (b := impl_SameMail.m) h.1 ⟨0, ?_⟩
  by_cases c1 : a.gid = b.gid
  rotate_left
  · have hne : ¬ a = b := fun q => c1 (by rw [q])
    simp [exB, impl_SameMail.m, impl_SameMail.b, List.range_succ, c1, hne]
  by_cases c2 : a.uid = b.uid
  rotate_left
  · have hne : ¬ a = b := fun q => c2 (by rw [q])
    simp [exB, impl_SameMail.m, impl_SameMail.b, List.range_succ, c1, c2, hne]
  by_cases c5 : a.flags = b.flags
  rotate_left
  · have hne : ¬ a = b := fun q => c5 (by rw [q])
    simp only [c5, decide_false] at h1
    simp [exB, impl_SameMail.m, impl_SameMail.b, List.range_succ, c1, c2, h1, hne]
  simp only [c5, decide_true] at h1
  by_cases c3 : a.text = b.text
  · have he : a = b := mail_ext c1 c2 c5 c3
    subst he
    simp [exB, impl_SameMail.m, impl_SameMail.b, List.range_succ, h1]
  · have hne : ¬ a = b := fun q => c3 (by rw [q])
    simp [exB, impl_SameMail.m, impl_SameMail.b, List.range_succ, c1, c2, c3, c5, h1, hne]
end Mx

/-
  A box is the same as itself.
-/
namespace Mx
open Go
variable {M : Nat → Option Body}
def sanS (l : List Int) (i : Nat) (x : Nat) : St := { t := [(0, .c (ints l)), (1, .c (ints l)), (5, .c (I i))], o := [], n := x }
def sanE (l : List Int) (x : Nat) : St := { t := [(0, .c (ints l)), (1, .c (ints l)), (5, .c (I l.length)), (14, .c (.bool false))], o := [], n := x }
theorem laws_sameInts.self (h : laws_sameInts.k M) (l : List Int) (hl : l.length ≤ 1048576) : run M 158 [.c (ints l), .c (ints l)] [] = some (.c (.bool true), []) := by
  refine run_code (b := laws_sameInts.m) h ⟨l.length + 1, ?_⟩
  obtain ⟨g, hr⟩ := count_loop (f := exC (run M) (l.length + 1) laws_sameInts.l0) l.length (sanS l) 0 (sanE l)
    (fun i hi x => by
      have e3 : IntKind.i64.wrap ((i : Int) + 1) = (i : Int) + 1 := wrap_i64 (by omega) (by omega)
      have e8 := irow_length l
      have e9 : (irow l)[i]'(by rw [e8]; exact hi) = [I l[i]] := by simp [irow]
      simp only [sanS, ints]
      generalize irow l = r at *
      simp (maxSteps := 1000000) [laws_sameInts.l0, List.range_succ, bs_get, setAt, hi, e3, e8, e9])
    (fun x => by
      have e8 := irow_length l
      simp only [sanS, sanE, ints]
      generalize irow l = r at *
      simp (maxSteps := 1000000) [laws_sameInts.l0, List.range_succ, bs_get, setAt, e8])
  have e8 := irow_length l
  simp only [sanS, sanE, ints] at hr ⊢
  generalize irow l = r at *
  simp at hr
  simp (maxSteps := 1000000) [exB, laws_sameInts.m, laws_sameInts.b, List.range_succ, bs_get, setAt, hr, e8]
def sbO (b : Box) (x : Nat × Nat) : List (Nat × Ob) := [(2, ⟨x.1, 7, true, true, [encBox b]⟩), (3, ⟨x.2, 7, true, true, [encBox b]⟩)]
def sbS (b : Box) (i : Nat) (x : (Nat × Nat) × Nat) : St := { t := [(2, .c (.ptr 2 x.1.1 0 0)), (3, .c (.ptr 3 x.1.2 0 0)), (5, .c (I i))], o := sbO b x.1, n := x.2 }
def sbE (b : Box) (x : (Nat × Nat) × Nat) : St := { t := [(2, .c (.ptr 2 x.1.1 0 0)), (3, .c (.ptr 3 x.1.2 0 0)), (5, .c (I b.mails.length)), (53, .c (.bool false))], o := sbO b x.1, n := x.2 }
theorem laws_sameBox.self (h : laws_sameBox.k M) (b : Box) (hb : BoxIn b) : run M 71 [.a (encBox b), .a (encBox b)] [] = some (.c (.bool true), []) := by
  obtain ⟨h0, k1, k2⟩ := h
  have h1 := laws_sameInts.self k1 b.gone hb.g
  have hm := hb.m
  refine run_code (b := laws_sameBox.m) h0 ⟨b.mails.length + 1, ?_⟩
  have e7 : (b.mails.map encMail).length = b.mails.length := by simp
  have e8 := irow_length b.gone
  obtain ⟨g, hr⟩ := count_loop (f := exC (run M) (b.mails.length + 1) laws_sameBox.l0) b.mails.length (sbS b) 0 (sbE b)
    (fun i hi x => by
      obtain ⟨⟨v1, v2⟩, n⟩ := x
      have h2 := spec_SameMail.says k2 b.mails[i] b.mails[i] (hb.f _ (List.getElem_mem hi))
      rw [decide_eq_true rfl] at h2
      have e3 : IntKind.i64.wrap ((i : Int) + 1) = (i : Int) + 1 := wrap_i64 (by omega) (by omega)
      have hat : (b.mails.map encMail)[i]'(by rw [e7]; exact hi) = [I b.mails[i].gid, I b.mails[i].uid, regs b.mails[i].flags, S b.mails[i].text] := by rw [List.getElem_map]
      simp only [encMail] at h2
      simp only [sbS, sbO, encBox, mails, Prod.exists]
      generalize b.mails.map encMail = rm at *
      simp (maxSteps := 1000000) [laws_sameBox.l0, List.range_succ, bs_get, setAt, hi, h2, e3, e7, hat])
    (fun x => by
      obtain ⟨⟨v1, v2⟩, n⟩ := x
      simp only [sbS, sbE, sbO, encBox, mails, Prod.exists]
      generalize b.mails.map encMail = rm at *
      simp (maxSteps := 1000000) [laws_sameBox.l0, List.range_succ, bs_get, setAt, e7])
  simp only [sbS, sbE, sbO] at hr
  replace hr := fun a c n => hr ⟨⟨a, c⟩, n⟩
  simp only [encBox, mails, ints] at *
  generalize b.mails.map encMail = rm at *
  generalize irow b.gone = rg at *
  simp at hr
  simp (maxSteps := 1000000) [exB, laws_sameBox.m, laws_sameBox.b, List.range_succ, bs_get, setAt, hr, h1, e7, e8]
end Mx

/-
  Right boxes: what the law of boxes asks for.
-/
namespace Mx
open Go
def added (b : Box) (g f : Int) (x : List UInt8) (t w : Int) : Box := { b with mails := b.mails ++ [⟨g, b.next, flagsNew f t w, x⟩], next := b.next + 1 }
theorem flagsNew_ok (f t w : Int) (h : stampOk t w = true) : flagsOk (flagsNew f t w) = true := by
  refine flagsOk_iff.2 ⟨rfl, fun r hr => ?_⟩
  simp only [flagsNew, List.mem_cons, List.not_mem_nil, or_false] at hr
  rcases hr with rfl | rfl | rfl
  · have := bitOf_range f 0
    exact ⟨by simp only [regOk, h, Bool.true_and]; exact inR_iff.2 ⟨this.1, by omega⟩, this.2⟩
  · have := bitOf_range f 1
    exact ⟨by simp only [regOk, h, Bool.true_and]; exact inR_iff.2 ⟨this.1, by omega⟩, this.2⟩
  · have := bitOf_range f 2
    exact ⟨by simp only [regOk, h, Bool.true_and]; exact inR_iff.2 ⟨this.1, by omega⟩, this.2⟩
theorem good_added {b : Box} (h : Good b) {g f : Int} {x : List UInt8} {t w : Int} (hg : 1 ≤ g ∧ g ≤ 9999) (h1 : ∀ m ∈ b.mails, m.gid ≠ g) (h2 : ¬ g ∈ b.gone) (hx : x.length ≤ 60) (hs : stampOk t w = true)
    (hl : b.mails.length < 10) (hn : b.next ≤ 9999) : Good (added b g f x t w) := by
  have hm : mailOk ⟨g, b.next, flagsNew f t w, x⟩ = true := by
    simp only [mailOk, Bool.and_eq_true, decide_eq_true_eq]
    exact ⟨⟨⟨inR_iff.2 hg, inR_iff.2 ⟨h.next.1, hn⟩⟩, flagsNew_ok f t w hs⟩, hx⟩
  refine ⟨h.gid, h.name, h.st, ?_, by simp only [added, List.length_append, List.length_singleton]; omega, h.gone, h.goneR, h.goneL, fun m hm' => ?_, ?_, ?_⟩
  · have := h.next; simp only [added]; omega
  · rcases List.mem_append.1 hm' with q | q
    · have := h.mail m q
      exact ⟨this.1, by have := this.2.1; simp only [added]; omega, this.2.2⟩
    · simp only [List.mem_singleton] at q
      subst q
      exact ⟨hm, by simp only [added]; omega, h2⟩
  · refine List.pairwise_append.2 ⟨h.uids, List.pairwise_singleton _ _, fun a ha c hc => ?_⟩
    simp only [List.mem_singleton] at hc
    subst hc
    exact (h.mail a ha).2.1
  · refine List.pairwise_append.2 ⟨h.gids, List.pairwise_singleton _ _, fun a ha c hc => ?_⟩
    simp only [List.mem_singleton] at hc
    subst hc
    exact h1 a ha
theorem add_yes {b : Box} (h : Good b) {g f : Int} {x : List UInt8} {t w : Int} (hg : 1 ≤ g ∧ g ≤ 9999) (h1 : ∀ m ∈ b.mails, m.gid ≠ g) (h2 : ¬ g ∈ b.gone) (hf : 0 ≤ f ∧ f ≤ 7) (hx : x.length ≤ 60) (hs : stampOk t w = true)
    (hl : b.mails.length < 10) (hn : b.next ≤ 9999) : addMail b g f x t w = (added b g f x t w, true) := by
  unfold addMail
  rw [if_pos ⟨boxOk_iff.2 h, mailO_none.2 h1, h2, inR_iff.2 hf, boxOk_iff.2 (good_added h hg h1 h2 hx hs hl hn)⟩]
  rfl
theorem add_full {b : Box} {g f : Int} {x : List UInt8} {t w : Int} (hl : ¬ b.mails.length < 10) : addMail b g f x t w = (b, false) := by
  unfold addMail
  rw [if_neg]
  rintro ⟨_, _, _, _, h⟩
  have := (boxOk_iff.1 h).len
  simp at this; omega
theorem add_there {b : Box} {g f : Int} {x : List UInt8} {t w : Int} {k : Nat} (hk : mailO b.mails g = some k) : addMail b g f x t w = (b, false) := by
  unfold addMail
  rw [if_neg]
  rintro ⟨_, h, _⟩
  rw [hk] at h; cases h
theorem add_gone {b : Box} {g f : Int} {x : List UInt8} {t w : Int} (hk : g ∈ b.gone) : addMail b g f x t w = (b, false) := by
  unfold addMail
  rw [if_neg]
  rintro ⟨_, _, h, _⟩
  exact h hk
theorem mailO_added {b : Box} {g f : Int} {x : List UInt8} {t w : Int} (h1 : ∀ m ∈ b.mails, m.gid ≠ g) : mailO (added b g f x t w).mails g = some b.mails.length := by
  have hk : b.mails.length < (added b g f x t w).mails.length := by simp [added]
  have hat : (added b g f x t w).mails[b.mails.length].gid = g := by simp [added]
  have := mailO_at hk fun j hj => by
    rw [hat]
    have : (added b g f x t w).mails[j]'(by omega) = b.mails[j] := by simp only [added]; rw [List.getElem_append_left hj]
    rw [this]
    exact h1 _ (List.getElem_mem hj)
  rw [hat] at this
  exact this
/-- the new mail is taken out again -/
theorem take_added {b : Box} (h : Good b) {g f : Int} {x : List UInt8} {t w : Int} (hg : 1 ≤ g ∧ g ≤ 9999) (h1 : ∀ m ∈ b.mails, m.gid ≠ g) (h2 : ¬ g ∈ b.gone) (hx : x.length ≤ 60) (hs : stampOk t w = true)
    (hl : b.mails.length < 10) (hn : b.next ≤ 9999) (h40 : b.gone.length < 40) : takeOut (added b g f x t w) g = ({ b with next := b.next + 1, gone := gput b.gone g }, true) ∧ Good { b with next := b.next + 1, gone := gput b.gone g } := by
  have hG := good_added (f := f) h hg h1 h2 hx hs hl hn
  have hk : b.mails.length < (added b g f x t w).mails.length := by simp [added]
  have hT := good_take hG hk h40
  have hat : (added b g f x t w).mails[b.mails.length].gid = g := by simp [added]
  have e : (added b g f x t w).mails.take b.mails.length ++ (added b g f x t w).mails.drop (b.mails.length + 1) = b.mails := by simp [added]
  rw [e, hat] at hT
  refine ⟨?_, hT⟩
  unfold takeOut
  rw [mailO_added h1]
  simp only
  rw [if_pos ⟨boxOk_iff.2 hG, h40⟩, e]
  rfl
end Mx

/-
  The law of boxes.
-/
namespace Mx
open Go
variable {M : Nat → Option Body}
theorem laws_big.says (h : laws_big.k M) (R : List (List T)) (hl : R.length ≤ 9223372036854775807) : run M 36 [.c (.sl false 1 R)] [] = some (.c (.bool (decide (1048576 < R.length))), []) := by
  refine run_code (b := laws_big.m) h ⟨0, ?_⟩
  simp (maxSteps := 1000000) [exB, laws_big.m, laws_big.b, List.range_succ, bs_get, setAt]
  omega
abbrev tNew : List UInt8 := [110, 101, 119]
abbrev tAgain : List UInt8 := [97, 103, 97, 105, 110]
abbrev tMore : List UInt8 := [109, 111, 114, 101]
abbrev tTwice : List UInt8 := [116, 119, 105, 99, 101]
set_option maxHeartbeats 4000000 in
set_option maxRecDepth 100000 in
theorem laws_FnBoxes.says (h : laws_FnBoxes.k M) (R : List (List T)) (hl : R.length ≤ 9223372036854775807) (hr : ∀ (i : Nat) (r : List T), R[i]? = some r → ∃ n : Int, r = [.int .u8 n]) :
    run M 390 [.c (.sl false 1 R)] [] = some (.c (.bool true), []) := by
  obtain ⟨h0, kbig, kpl, kbx, kadd, ksame, kat, kout, kok⟩ := h
  have hbig := laws_big.says kbig R hl
  refine run_code (b := laws_FnBoxes.m) h0 ⟨0, ?_⟩
  by_cases cb : 1048576 < R.length
  · rw [decide_eq_true cb] at hbig
    simp (maxSteps := 1000000) [exB, laws_FnBoxes.m, laws_FnBoxes.b, List.range_succ, bs_get, setAt, hbig]
  rw [decide_eq_false cb] at hbig
  have hR : Bytes R := ⟨by omega, hr⟩
  obtain ⟨b, hD, h2⟩ := spec_DrawBox.says kbx hR
  obtain ⟨rp, hp1, hp2, h3⟩ := spec_DrawPlaces.says kpl hR
  obtain ⟨p0, hp0, e0⟩ := hp2 (rp[0]'(by omega)) (List.getElem_mem _)
  obtain ⟨f, hf, ef⟩ := tmod_small p0 8 (by omega)
  simp only [Int.cast_ofNat_Int] at ef
  have hG := hD.good
  have hnx : 1 ≤ b.next ∧ b.next ≤ 15 := ⟨hG.next.1, by have := hD.nx; omega⟩
  have hm77 : ∀ m ∈ b.mails, m.gid ≠ 77 := fun m hm => by have := hD.m m hm; omega
  have hm78 : ∀ m ∈ b.mails, m.gid ≠ 78 := fun m hm => by have := hD.m m hm; omega
  have hg77 : ¬ (77 : Int) ∈ b.gone := fun hm => by have := hD.g _ hm; omega
  have hg78 : ¬ (78 : Int) ∈ b.gone := fun hm => by have := hD.g _ hm; omega
  have hst : stampOk 60 1 = true := by decide
  have h4 := impl_AddMail.says kadd b hG.inB 77 f tNew 60 1
  have e7 : (b.mails.map encMail).length = b.mails.length := by simp
  have e8 := irow_length b.gone
  by_cases hlen : b.mails.length < 10
  rotate_left
  · rw [add_full hlen] at h4
    have h5 := laws_sameBox.self ksame b hG.inB
    have hlen2 : ¬ (b.mails.length : Int) < 10 := by omega
    simp only [encBox, encBoxO, mails, ints, bs] at *
    generalize b.mails.map encMail = rm at *
    generalize irow b.gone = rg at *
    simp (maxSteps := 1000000) [exB, laws_FnBoxes.m, laws_FnBoxes.b, List.range_succ, bs_get, setAt, hbig, h2, h3, h4, h5, hp1, e0, ef, hlen, hlen2, e7, e8]
  · have hadd := add_yes hG (g := 77) (f := f) (x := tNew) (t := 60) (w := 1) (by omega) hm77 hg77 (by omega) (by decide) hst hlen (by omega)
    have hC := good_added hG (g := 77) (f := f) (x := tNew) (t := 60) (w := 1) (by omega) hm77 hg77 (by decide) hst hlen (by omega)
    obtain ⟨htake, hDg⟩ := take_added hG (g := 77) (f := f) (x := tNew) (t := 60) (w := 1) (by omega) hm77 hg77 (by decide) hst hlen (by omega) (by have := hD.gl; omega)
    rw [hadd] at h4
    have h5 := impl_MailAt.says kat _ 77 hC.inB.m
    rw [mailO_added hm77] at h5
    have h6 := impl_TakeOut.says kout _ hC.inB 77
    rw [htake] at h6
    have h7 := impl_AddMail.says kadd _ hDg.inB 77 0 tAgain 60 1
    rw [add_gone (by simp only; exact gput_mem.2 (.inl rfl))] at h7
    have h8 := impl_AddMail.says kadd _ hDg.inB 78 0 tMore 60 1
    rw [add_yes hDg (by omega) hm78 (fun hm => by rcases gput_mem.1 hm with q | q; omega; exact hg78 q) (by omega) (by decide) hst hlen (by simp only; omega)] at h8
    have h9 := impl_AddMail.says kadd _ hC.inB 77 0 tTwice 60 1
    rw [add_there (mailO_added hm77)] at h9
    have h10 := impl_MailAt.says kat _ 77 hDg.inB.m
    rw [mailO_none.2 hm77] at h10
    have h11 := laws_sameBox.self ksame _ hDg.inB
    have h12 := impl_BoxOk.says kok _ hC.inB.ok.1 hC.inB.ok.2.1 hC.inB.ok.2.2.1 hC.inB.ok.2.2.2
    rw [boxOk_iff.2 hC] at h12
    have h13 := impl_BoxOk.says kok _ hDg.inB.ok.1 hDg.inB.ok.2.1 hDg.inB.ok.2.2.1 hDg.inB.ok.2.2.2
    rw [boxOk_iff.2 hDg] at h13
    have hlen2 : (b.mails.length : Int) < 10 := by omega
    have e9 : IntKind.i64.wrap (b.next + 1) = b.next + 1 := wrap_i64 (by omega) (by omega)
    have e10 : IntKind.i64.wrap ((b.mails.length : Int) + 1 - 1) = b.mails.length := by rw [Int.add_sub_cancel]; exact wrap_i64 (by omega) (by omega)
    have e11 : IntKind.i64.wrap (b.mails.length : Int) = b.mails.length := wrap_i64 (by omega) (by omega)
    have e12 := irow_length (gput b.gone 77)
    simp only [added, intO, encBox, encBoxO, mails, ints, List.map_append, List.map_cons, List.map_nil, encMail, regs, S, bs, tNew, tAgain, tMore, tTwice] at *
    generalize (flagsNew f 60 1).map encReg = rf at *
    generalize (flagsNew 0 60 1).map encReg = rf0 at *
    generalize b.mails.map encMail = rm at *
    generalize irow b.gone = rg at *
    generalize irow (gput b.gone 77) = ru at *
    generalize hrc : rm ++ [[I 77, I b.next, .sl false 3 rf, .str ⟨List.toArray [110, 101, 119]⟩]] = rc at *
    generalize hre : rm ++ [[I 78, I (b.next + 1), .sl false 3 rf0, .str ⟨List.toArray [109, 111, 114, 101]⟩]] = re at *
    have q1 : ∀ hh, rc[b.mails.length]'hh = [I 77, I b.next, .sl false 3 rf, .str ⟨List.toArray [110, 101, 119]⟩] := by intro hh; subst hrc; simp [← e7]
    have q2 : rc.length = b.mails.length + 1 := by subst hrc; simp [e7]
    have q3 : ∀ hh, re[b.mails.length]'hh = [I 78, I (b.next + 1), .sl false 3 rf0, .str ⟨List.toArray [109, 111, 114, 101]⟩] := by intro hh; subst hre; simp [← e7]
    have q4 : re.length = b.mails.length + 1 := by subst hre; simp [e7]
    simp (maxSteps := 1000000) [exB, laws_FnBoxes.m, laws_FnBoxes.b, List.range_succ, bs_get, setAt, hbig, h2, h3, h4, h5, h6, h7, h8, h9, h10, h11, h12, h13, hp1, e0, ef, hlen, hlen2, e7, e8, e9, e10, e11, e12, q1, q2, q3, q4]
theorem laws_FnBoxes.row (h : laws_FnBoxes.k M) {as : List V} (ha : HasVs [.cell (.sl [.int .u8])] as) : run M 390 as [] = some (.c (.bool true), []) := by
  cases ha with | cons h0 ha =>
  cases ha
  cases h0 with | cell h0 =>
  cases h0 with | sl _ rows hl h1 h2 =>
  refine laws_FnBoxes.says h rows (Nat.le_trans hl (by decide)) fun i r hr => ?_
  have hlen := h1 i r hr
  match r, hlen with
  | [a], _ =>
    obtain ⟨n, rfl⟩ := has_int (h2 i 0 [a] (.int .u8) a hr rfl rfl)
    exact ⟨n, rfl⟩
end Mx

/-
  The law of told boxes.
-/
namespace Mx
open Go
variable {M : Nat → Option Body}
theorem addMail_in {b : Box} (hb : BoxIn b) (g f : Int) (x : List UInt8) (t w : Int) : BoxIn (addMail b g f x t w).1 := by
  unfold addMail
  split
  · rename_i c
    exact (boxOk_iff.1 c.2.2.2.2).inB
  · exact hb
theorem flagMail_in {b : Box} (hb : BoxIn b) (g n t w : Int) : BoxIn (flagMail b g n t w).1 := by
  unfold flagMail
  split
  · exact hb
  · split
    · exact hb
    · rename_i k hk m hm
      split
      · refine ⟨by simpa using hb.m, hb.g, hb.n, fun m' hm' => ?_⟩
        obtain ⟨j, hj, rfl⟩ := List.getElem_of_mem hm'
        simp only [List.getElem_set]
        split
        · have e : (setFlags m.flags n t w).length = m.flags.length := by unfold setFlags; split <;> simp
          simp only [e]
          exact hb.f m (List.mem_of_getElem? hm)
        · exact hb.f _ (List.getElem_mem _)
      · exact hb
theorem takeOut_in {b : Box} (hb : BoxIn b) (g : Int) : BoxIn (takeOut b g).1 := by
  unfold takeOut
  split
  · exact hb
  · rename_i k hk
    split
    · rename_i c
      have hs := sub_take_drop b.mails k
      refine ⟨Nat.le_trans hs.length_le hb.m, ?_, hb.n, fun m hm => hb.f m (hs.subset hm)⟩
      have := gput_len b.gone g
      have := c.2
      simp only; omega
    · exact hb
set_option maxHeartbeats 8000000 in
set_option maxRecDepth 100000 in
theorem laws_FnBoxesTold.says (h : laws_FnBoxesTold.k M) (R : List (List T)) (hl : R.length ≤ 9223372036854775807) (hr : ∀ (i : Nat) (r : List T), R[i]? = some r → ∃ n : Int, r = [.int .u8 n]) :
    run M 391 [.c (.sl false 1 R)] [] = some (.c (.bool true), []) := by
  obtain ⟨h0, kbig, kadd, ksame, kat, kout, kok, kd1, kd2, kadd2, kd3, kfl, kfl2, kd4, kout2, kd5, kok2, knm, knm2, kat2⟩ := h
  have hbig := laws_big.says kbig R hl
  refine run_code (b := laws_FnBoxesTold.m) h0 ⟨0, ?_⟩
  by_cases cb : 1048576 < R.length
  · rw [decide_eq_true cb] at hbig
    simp (maxSteps := 1000000) [exB, laws_FnBoxesTold.m, laws_FnBoxesTold.b, List.range_succ, bs_get, setAt, hbig]
  rw [decide_eq_false cb] at hbig
  have hR : Bytes R := ⟨by omega, hr⟩
  obtain ⟨b, hb, h1⟩ := spec_DrawBoxOk.says kd1 hR
  obtain ⟨x, g, f, s, t, w, hx, h2⟩ := spec_DrawAddMail.says kd2 hR
  have h3 := impl_AddMail.says kadd x hx g f s t w
  have h4 := spec_AddMail.says kadd2 x hx g f s t w
  have hc := addMail_in hx g f s t w
  obtain ⟨y, g2, n2, t2, w2, hy, h5⟩ := spec_DrawFlagMail.says kd3 hR
  have h6 := impl_FlagMail.says kfl y hy g2 n2 t2 w2
  have h7 := spec_FlagMail.says kfl2 y hy g2 n2 t2 w2
  have he := flagMail_in hy g2 n2 t2 w2
  obtain ⟨z, j, hz, h8⟩ := spec_DrawTakeOut.says kd4 hR
  have h9 := impl_TakeOut.says kout z hz j
  have h10 := spec_TakeOut.says kout2 z hz j
  have hv := takeOut_in hz j
  obtain ⟨nm, hnm, h11⟩ := spec_DrawNameOk.says kd5 hR
  have h12 := impl_BoxOk.says kok b hb.ok.1 hb.ok.2.1 hb.ok.2.2.1 hb.ok.2.2.2
  have h13 := spec_BoxOk.says kok2 b hb.ok.1 hb.ok.2.1 hb.ok.2.2.1 hb.ok.2.2.2
  have h17 := impl_NameOk.says knm nm (by omega)
  have h18 := spec_NameOk.says knm2 nm (by omega)
  have h19 := impl_MailAt.says kat b g hb.m
  have h20 := spec_MailAt.says kat2 b g hb.m
  generalize addMail x g f s t w = A1 at *
  obtain ⟨c, ok⟩ := A1
  generalize flagMail y g2 n2 t2 w2 = A2 at *
  obtain ⟨e, ok2⟩ := A2
  generalize takeOut z j = A3 at *
  obtain ⟨v, ok3⟩ := A3
  simp only at h3 h4 hc h6 h7 he h9 h10 hv
  have h14 := laws_sameBox.self ksame c hc
  have h15 := laws_sameBox.self ksame e he
  have h16 := laws_sameBox.self ksame v hv
  generalize boxOk b = bk at *
  generalize nameOk nm = nk at *
  generalize intO (mailO b.mails g) = ia at *
  simp only [encBox, encBoxO, mails, ints] at *
  generalize b.mails.map encMail = r1 at *
  generalize irow b.gone = r2 at *
  generalize x.mails.map encMail = r3 at *
  generalize irow x.gone = r4 at *
  generalize y.mails.map encMail = r5 at *
  generalize irow y.gone = r6 at *
  generalize z.mails.map encMail = r7 at *
  generalize irow z.gone = r8 at *
  generalize c.mails.map encMail = r9 at *
  generalize irow c.gone = r10 at *
  generalize e.mails.map encMail = r11 at *
  generalize irow e.gone = r12 at *
  generalize v.mails.map encMail = r13 at *
  generalize irow v.gone = r14 at *
  simp (maxSteps := 1000000) [exB, laws_FnBoxesTold.m, laws_FnBoxesTold.b, List.range_succ, bs_get, setAt, hbig, h1, h2, h3, h4, h5, h6, h7, h8, h9, h10, h11, h12, h13, h14, h15, h16, h17, h18, h19, h20]
theorem laws_FnBoxesTold.row (h : laws_FnBoxesTold.k M) {as : List V} (ha : HasVs [.cell (.sl [.int .u8])] as) : run M 391 as [] = some (.c (.bool true), []) := by
  cases ha with | cons h0 ha =>
  cases ha
  cases h0 with | cell h0 =>
  cases h0 with | sl _ rows hl h1 h2 =>
  refine laws_FnBoxesTold.says h rows (Nat.le_trans hl (by decide)) fun i r hr => ?_
  have hlen := h1 i r hr
  match r, hlen with
  | [a], _ =>
    obtain ⟨n, rfl⟩ := has_int (h2 i 0 [a] (.int .u8) a hr rfl rfl)
    exact ⟨n, rfl⟩
end Mx
