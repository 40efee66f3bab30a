/-
  What more of the functions compute, each by a small evaluation; no condition beyond what each says.
-/
import Derived.Test.YtcihgbflbmhkbaaGreatMxSjc
set_option linter.unusedSimpArgs false
set_option linter.unusedVariables false
namespace Mx
open Go
variable {M : Nat → Option Body}
theorem impl_copyRegs.says (h : impl_copyRegs.k M) (l : List Reg) (hl : l.length ≤ 1048576) : run M 239 [.c (regs l)] [] = some (.c (.sl true 3 (l.map encReg)), []) := by
  refine run_code (b := impl_copyRegs.m) h ⟨0, ?_⟩
  have e : (l.map encReg).length = l.length := by simp
  have h1 : l.length ≤ 4294967296 := by omega
  simp only [regs]
  generalize l.map encReg = r at *
  simp (maxSteps := 1000000) [exB, impl_copyRegs.m, impl_copyRegs.b, List.range_succ, bs_get, setAt, e, h1, List.take_of_length_le]
theorem spec_l04Copy.says (h : spec_l04Copy.k M) (l : List Reg) (hl : l.length ≤ 1048576) : run M 241 [.c (regs l)] [] = some (.c (.sl true 3 (l.map encReg)), []) := by
  refine run_code (b := spec_l04Copy.m) h ⟨0, ?_⟩
  have e : (l.map encReg).length = l.length := by simp
  have h1 : l.length ≤ 4294967296 := by omega
  simp only [regs]
  generalize l.map encReg = r at *
  simp (maxSteps := 1000000) [exB, spec_l04Copy.m, spec_l04Copy.b, List.range_succ, bs_get, setAt, e, h1, List.take_of_length_le]
theorem impl_copyMail.says (h : impl_copyMail.k M) (m : Mail) (hl : m.flags.length ≤ 1048576) : run M 233 [.a (encMail m)] [] = some (.a (encMailO m), []) := by
  have h1 := impl_copyRegs.says h.2 m.flags hl
  refine run_code (b := impl_copyMail.m) h.1 ⟨0, ?_⟩
  have e : (m.flags.map encReg).length = m.flags.length := by simp
  simp only [encMail, encMailO, regs] at *
  generalize m.flags.map encReg = r at *
  simp (maxSteps := 1000000) [exB, impl_copyMail.m, impl_copyMail.b, List.range_succ, bs_get, setAt, h1, e, List.take_of_length_le]
theorem spec_l05Copy.says (h : spec_l05Copy.k M) (m : Mail) (hl : m.flags.length ≤ 1048576) : run M 238 [.a (encMail m)] [] = some (.a (encMailO m), []) := by
  have h1 := spec_l04Copy.says h.2 m.flags hl
  refine run_code (b := spec_l05Copy.m) h.1 ⟨0, ?_⟩
  have e : (m.flags.map encReg).length = m.flags.length := by simp
  simp only [encMail, encMailO, regs] at *
  generalize m.flags.map encReg = r at *
  simp (maxSteps := 1000000) [exB, spec_l05Copy.m, spec_l05Copy.b, List.range_succ, bs_get, setAt, h1, e, List.take_of_length_le]
/-- a loop that counts -/
theorem count_loop {β γ : Type} (n : Nat) {f : St → Option (Out × St)} (S : Nat → β → St) (e : Nat) (E : γ → St)
    (h1 : ∀ i, i < n → ∀ x, ∃ y, f (S i x) = some (.normal, S (i + 1) y)) (h3 : ∀ x, ∃ y, f (S n x) = some (.exit e, E y)) :
    ∃ g : β → γ, ∀ x, loopN f (n + 1) (S 0 x) = some (.exit e, E (g x)) := by
  refine loop_all (f := f) S (fun i => i ≤ n) (fun i => n - i) (fun _ => ()) (fun _ m => (.exit e, E m)) ?_ (n + 1) 0 (Nat.zero_le _) (by omega)
  intro i x hi
  by_cases hlt : i < n
  · left
    obtain ⟨y, hy⟩ := h1 i hlt x
    exact ⟨i + 1, y, hy, hlt, by omega, rfl⟩
  · have : i = n := by omega
    subst this
    right
    obtain ⟨y, hy⟩ := h3 x
    exact ⟨y, by simp [hy], by simp⟩
def icO (b : Box) (i : Nat) (x : Four × Nat) : List (Nat × Ob) := [(1, ⟨x.1.a, 7, true, true, [encBox b]⟩), (2, ⟨x.1.b, 7, true, true, [bzero]⟩), (3, ⟨x.2, 7, true, true, [[I b.gid, S b.name, I b.time, I b.who, I b.next, .row 7 x.1.c 0 i, ints b.gone]]⟩), (7, ⟨x.1.c, 4, true, false, (b.mails.take i).map encMail⟩)]
def icS (b : Box) (i : Nat) (x : Four × Nat) : St := { t := [(1, .c (.ptr 1 x.1.a 0 0)), (2, .c (.ptr 2 x.1.b 0 0)), (3, .c (.ptr 3 x.2 0 0)), (10, .c (mails b.mails)), (11, .c (I b.mails.length)), (12, .c (I i))], o := icO b i x, n := x.1.d }
def icE (b : Box) (x : Four × Nat) : St := { t := [(1, .c (.ptr 1 x.1.a 0 0)), (2, .c (.ptr 2 x.1.b 0 0)), (3, .c (.ptr 3 x.2 0 0)), (10, .c (mails b.mails)), (11, .c (I b.mails.length)), (12, .c (I b.mails.length)), (13, .c (.bool false))], o := icO b b.mails.length x, n := x.1.d }
theorem take_snoc {α : Type} (l : List α) (i : Nat) (h : i < l.length) : l.take (i + 1) = l.take i ++ [l[i]] := List.take_succ_eq_append_getElem h
theorem impl_copyBox.says (h : impl_copyBox.k M) (b : Box) (hb : BoxIn b) : run M 155 [.a (encBox b)] [] = some (.a (encBoxO b), []) := by
  obtain ⟨h0, k1, k2⟩ := h
  have hm := hb.m
  have h1 := impl_copyInts.says k1 b.gone hb.g
  refine run_code (b := impl_copyBox.m) h0 ⟨b.mails.length + 1, ?_⟩
  obtain ⟨g, hr⟩ := count_loop (f := exC (run M) (b.mails.length + 1) impl_copyBox.l0) b.mails.length (icS b) 0 (icE b)
    (fun i hi x => by
      obtain ⟨⟨v1, v2, v3, n⟩, v4⟩ := x
      have h2 := impl_copyMail.says k2 b.mails[i] (hb.f _ (List.getElem_mem hi))
      have e5 := wrap1 (i := i) (by omega)
      have e6 : i + 1 ≤ 4294967296 := by omega
      have e7 : ((b.mails.take i).map encMail).length = i := by simp; omega
      have e8 : ((b.mails.take (i + 1)).map encMail) = (b.mails.take i).map encMail ++ [encMail b.mails[i]] := by rw [take_snoc _ _ hi, List.map_append]; rfl
      simp only [icS, icO, e8, Prod.exists, Four.ex]
      generalize (b.mails.take i).map encMail = rr at *
      simp only [encMail, encMailO] at h2
      simp (maxSteps := 1000000) [impl_copyBox.l0, List.range_succ, bs_get, setAt, hi, h2, e5, e6, e7, encMail, List.take_of_length_le]
      exact ⟨_, _, _, _, _, ⟨rfl, rfl, rfl⟩, ⟨rfl, rfl, rfl, rfl⟩, rfl⟩)
    (fun x => by
      obtain ⟨⟨v1, v2, v3, n⟩, v4⟩ := x
      simp only [Prod.exists, Four.ex]
      simp (maxSteps := 1000000) [impl_copyBox.l0, List.range_succ, bs_get, setAt, icS, icE, icO]
      exact ⟨_, _, _, _, _, ⟨rfl, rfl, rfl⟩, ⟨rfl, rfl, rfl, rfl⟩, rfl⟩)
  have e7 : (b.mails.map encMail).length = b.mails.length := by simp
  have e8 := irow_length b.gone
  have e9 : b.mails.take b.mails.length = b.mails := by simp
  simp only [ints] at h1
  simp only [icS, icE, icO, e9, List.take_zero, List.map_nil, ints] at hr
  replace hr := fun a b c d n => hr ⟨⟨a, b, c, d⟩, n⟩
  simp only [encBox, encBoxO, mails, ints] at hr ⊢
  generalize b.mails.map encMail = rm at *
  generalize irow b.gone = rg at *
  simp at hr
  simp (maxSteps := 1000000) [exB, impl_copyBox.m, impl_copyBox.b, List.range_succ, bs_get, setAt, hr, h1, e7, e8, List.take_of_length_le]
def scO (b : Box) (i : Nat) (x : Four × Nat) : List (Nat × Ob) := [(1, ⟨x.1.a, 7, true, true, [encBox b]⟩), (2, ⟨x.1.b, 7, true, true, [bzero]⟩), (3, ⟨x.2, 7, true, true, [[I b.gid, S b.name, I b.time, I b.who, I b.next, .row 6 x.1.c 0 i, ints b.gone]]⟩), (6, ⟨x.1.c, 4, true, false, (b.mails.take i).map encMail⟩)]
def scS (b : Box) (i : Nat) (x : Four × Nat) : St := { t := [(1, .c (.ptr 1 x.1.a 0 0)), (2, .c (.ptr 2 x.1.b 0 0)), (3, .c (.ptr 3 x.2 0 0)), (4, .c (I i))], o := scO b i x, n := x.1.d }
def scE (b : Box) (x : Four × Nat) : St := { t := [(1, .c (.ptr 1 x.1.a 0 0)), (2, .c (.ptr 2 x.1.b 0 0)), (3, .c (.ptr 3 x.2 0 0)), (4, .c (I b.mails.length)), (12, .c (.bool false))], o := scO b b.mails.length x, n := x.1.d }
theorem spec_l06Copy.says (h : spec_l06Copy.k M) (b : Box) (hb : BoxIn b) : run M 180 [.a (encBox b)] [] = some (.a (encBoxO b), []) := by
  obtain ⟨h0, k2⟩ := h
  have hm := hb.m
  have hg := hb.g
  refine run_code (b := spec_l06Copy.m) h0 ⟨b.mails.length + 1, ?_⟩
  obtain ⟨g, hr⟩ := count_loop (f := exC (run M) (b.mails.length + 1) spec_l06Copy.l0) b.mails.length (scS b) 0 (scE b)
    (fun i hi x => by
      obtain ⟨⟨v1, v2, v3, n⟩, v4⟩ := x
      have h2 := spec_l05Copy.says k2 b.mails[i] (hb.f _ (List.getElem_mem hi))
      have e5 := wrap1 (i := i) (by omega)
      have e6 : i + 1 ≤ 4294967296 := by omega
      have e7 : ((b.mails.take i).map encMail).length = i := by simp; omega
      have e8 : ((b.mails.take (i + 1)).map encMail) = (b.mails.take i).map encMail ++ [encMail b.mails[i]] := by rw [take_snoc _ _ hi, List.map_append]; rfl
      simp only [scS, scO, e8, Prod.exists, Four.ex]
      generalize (b.mails.take i).map encMail = rr at *
      simp only [encMail, encMailO] at h2
      simp (maxSteps := 1000000) [spec_l06Copy.l0, List.range_succ, bs_get, setAt, hi, h2, e5, e6, e7, encMail, List.take_of_length_le]
      exact ⟨_, _, _, _, _, ⟨rfl, rfl, rfl⟩, ⟨rfl, rfl, rfl, rfl⟩, rfl⟩)
    (fun x => by
      obtain ⟨⟨v1, v2, v3, n⟩, v4⟩ := x
      simp only [Prod.exists, Four.ex]
      simp (maxSteps := 1000000) [spec_l06Copy.l0, List.range_succ, bs_get, setAt, scS, scE, scO]
      exact ⟨_, _, _, _, _, ⟨rfl, rfl, rfl⟩, ⟨rfl, rfl, rfl, rfl⟩, rfl⟩)
  have e7 : (b.mails.map encMail).length = b.mails.length := by simp
  have e8 := irow_length b.gone
  have e9 : b.mails.take b.mails.length = b.mails := by simp
  have e6 : b.gone.length ≤ 4294967296 := by omega
  simp only [scS, scE, scO, e9, List.take_zero, List.map_nil, ints] at hr
  replace hr := fun a b c d n => hr ⟨⟨a, b, c, d⟩, n⟩
  simp only [encBox, encBoxO, mails, ints] at hr ⊢
  generalize b.mails.map encMail = rm at *
  generalize irow b.gone = rg at *
  simp at hr
  simp (maxSteps := 1000000) [exB, spec_l06Copy.m, spec_l06Copy.b, List.range_succ, bs_get, setAt, hr, e6, e7, e8, List.take_of_length_le]
def bitOf (n : Int) (i : Nat) : Int := n.fdiv ((2 ^ i : Nat) : Int) % 2
def flagsNew (n t w : Int) : List Reg := [⟨bitOf n 0, t, w⟩, ⟨bitOf n 1, t, w⟩, ⟨bitOf n 2, t, w⟩]
theorem tmod_two (x : Int) : (x.tmod 2 = 0) ↔ x % 2 = 0 :=
  ⟨fun h => Int.emod_eq_zero_of_dvd (Int.dvd_of_tmod_eq_zero h), fun h => Int.tmod_eq_zero_of_dvd (Int.dvd_of_emod_eq_zero h)⟩
theorem spec_FlagsNew.says (h : spec_FlagsNew.k M) (n t w : Int) : run M 181 [.c (I n), .a [I t, I w]] [] = some (.c (.sl true 3 ((flagsNew n t w).map encReg)), []) := by
  refine run_code (b := spec_FlagsNew.m) h ⟨4, ?_⟩
  have w2 : IntKind.i64.wrap 2 = 2 := wrap_i64 (by omega) (by omega)
  have w3 : IntKind.i64.wrap 3 = 3 := wrap_i64 (by omega) (by omega)
  have u0 : IntKind.u64.wrap 0 = 0 := by decide
  have u1 : IntKind.u64.wrap 1 = 1 := by decide
  have u2 : IntKind.u64.wrap 2 = 2 := by decide
  have key : ∀ i : Nat, bitOf n i = if (n.fdiv ((2 ^ i : Nat) : Int)).tmod 2 = 0 then 0 else 1 := by
    intro i
    unfold bitOf
    by_cases c : (n.fdiv ((2 ^ i : Nat) : Int)).tmod 2 = 0
    · rw [if_pos c]; exact (tmod_two _).1 c
    · rw [if_neg c]; rw [tmod_two] at c; omega
  have k0 := key 0
  have k1 := key 1
  have k2 := key 2
  by_cases c0 : (n.fdiv ((2 ^ 0 : Nat) : Int)).tmod 2 = 0 <;> by_cases c1 : (n.fdiv ((2 ^ 1 : Nat) : Int)).tmod 2 = 0 <;> by_cases c2 : (n.fdiv ((2 ^ 2 : Nat) : Int)).tmod 2 = 0 <;>
    simp only [c0, c1, c2, if_true, if_false] at k0 k1 k2 <;> simp at c0 c1 c2 <;>
    simp (maxSteps := 1000000) [exB, spec_FlagsNew.m, spec_FlagsNew.b, List.range_succ, bs_get, setAt, loopN, spec_FlagsNew.l0, wrap_one, w2, w3, u0, u1, u2, flagsNew, encReg, k0, k1, k2, c0, c1, c2, IntKind.bits]
end Mx

namespace Mx
open Go
variable {M : Nat → Option Body}
def uidAt (l : List Mail) (i : Nat) : Int := match l[i]? with | some m => m.uid | none => 0
def keepsUid (a b : Box) (g : Int) : Bool := match mailO a.mails g with
  | none => false
  | some i => match mailO b.mails g with
    | some k => decide (uidAt a.mails i = uidAt b.mails k)
    | none => decide (b.next ≤ uidAt a.mails i)
theorem spec_KeepsUid.says (h : spec_KeepsUid.k M) (a b : Box) (g : Int) (ha : a.mails.length ≤ 1048576) (hb : b.mails.length ≤ 1048576) : run M 22 [.a (encBox a), .a (encBox b), .c (I g)] [] = some (.c (.bool (keepsUid a b g)), []) := by
  have h1 := spec_MailAt.says h.2 a g ha
  have h2 := spec_MailAt.says h.2 b g hb
  refine run_code (b := spec_KeepsUid.m) h.1 ⟨0, ?_⟩
  simp only [encBox] at h1 h2
  unfold keepsUid
  cases hi : mailO a.mails g with
  | none =>
    simp [hi, intO] at h1
    simp [exB, spec_KeepsUid.m, spec_KeepsUid.b, List.range_succ, h1]
  | some i =>
    have li := atO_lt _ _ _ _ _ hi
    simp [hi, intO] at h1
    have di : ¬ (i : Int) < 0 := by omega
    have ui : uidAt a.mails i = a.mails[i].uid := by simp [uidAt, li]
    cases hk : mailO b.mails g with
    | none =>
      simp [hk, intO] at h2
      simp [exB, spec_KeepsUid.m, spec_KeepsUid.b, List.range_succ, h1, h2, di, li, ui, encMail]
    | some k =>
      have lk := atO_lt _ _ _ _ _ hk
      have uk : uidAt b.mails k = b.mails[k].uid := by simp [uidAt, lk]
      simp [hk, intO] at h2
      simp [exB, spec_KeepsUid.m, spec_KeepsUid.b, List.range_succ, h1, h2, di, li, ui, lk, uk, encMail]
theorem impl_KeepsUid.says (h : impl_KeepsUid.k M) (a b : Box) (g : Int) (ha : a.mails.length ≤ 1048576) (hb : b.mails.length ≤ 1048576) : run M 23 [.a (encBox a), .a (encBox b), .c (I g)] [] = some (.c (.bool (keepsUid a b g)), []) := by
  have h1 := impl_MailAt.says h.2 a g ha
  have h2 := impl_MailAt.says h.2 b g hb
  refine run_code (b := impl_KeepsUid.m) h.1 ⟨0, ?_⟩
  simp only [encBox] at h1 h2
  unfold keepsUid
  cases hi : mailO a.mails g with
  | none =>
    simp [hi, intO] at h1
    simp [exB, impl_KeepsUid.m, impl_KeepsUid.b, List.range_succ, h1, h2]
  | some i =>
    have li := atO_lt _ _ _ _ _ hi
    simp [hi, intO] at h1
    have di : ¬ (i : Int) < 0 := by omega
    have ui : uidAt a.mails i = a.mails[i].uid := by simp [uidAt, li]
    cases hk : mailO b.mails g with
    | none =>
      simp [hk, intO] at h2
      simp [exB, impl_KeepsUid.m, impl_KeepsUid.b, List.range_succ, h1, h2, di, li, ui, encMail]
    | some k =>
      have lk := atO_lt _ _ _ _ _ hk
      have uk : uidAt b.mails k = b.mails[k].uid := by simp [uidAt, lk]
      simp [hk, intO] at h2
      by_cases c : a.mails[i].uid = b.mails[k].uid
      · simp [exB, impl_KeepsUid.m, impl_KeepsUid.b, List.range_succ, h1, h2, di, li, ui, lk, uk, encMail, c]
      · have c' : ¬ b.mails[k].uid = a.mails[i].uid := fun q => c q.symm
        simp [exB, impl_KeepsUid.m, impl_KeepsUid.b, List.range_succ, h1, h2, di, li, ui, lk, uk, encMail, c, c']
end Mx

namespace Mx
open Go
def insBy {α : Type} (k : α → Int) (acc : List α) (m : α) : List α := acc.filter (fun x => decide (k x ≤ k m)) ++ [m] ++ acc.filter (fun x => decide (k m < k x))
def sortBy {α : Type} (k : α → Int) (l : List α) : List α := l.foldl (insBy k) []
abbrev SortedBy {α : Type} (k : α → Int) (l : List α) : Prop := l.Pairwise fun x y => k x ≤ k y
theorem insBy_sorted {α : Type} {k : α → Int} {acc : List α} {m : α} (h : SortedBy k acc) : SortedBy k (insBy k acc m) := by
  simp only [insBy, SortedBy, List.pairwise_append, List.pairwise_singleton, List.mem_filter, decide_eq_true_eq, List.mem_singleton, List.mem_append]
  refine ⟨⟨h.filter _, trivial, ?_⟩, h.filter _, ?_⟩
  · rintro a ⟨_, ha⟩ b rfl; exact ha
  · rintro a (⟨_, ha⟩ | rfl) b ⟨_, hb⟩ <;> omega
theorem insBy_perm {α : Type} {k : α → Int} (acc : List α) (m : α) : (insBy k acc m).Perm (m :: acc) := by
  have : ∀ l : List α, (l.filter (fun x => decide (k x ≤ k m)) ++ l.filter (fun x => decide (k m < k x))).Perm l := by
    intro l
    have h := List.filter_append_perm (fun x => decide (k x ≤ k m)) l
    have e : (fun x => !decide (k x ≤ k m)) = fun x => decide (k m < k x) := by
      funext x; rw [Bool.eq_iff_iff]; simp
    rwa [e] at h
  refine List.Perm.trans ?_ ((this acc).cons m)
  unfold insBy
  rw [List.append_assoc]
  exact List.perm_middle
theorem foldBy_perm {α : Type} {k : α → Int} : ∀ (l acc : List α), (l.foldl (insBy k) acc).Perm (l ++ acc)
  | [], acc => List.Perm.refl _
  | x :: l, acc => by
    refine (foldBy_perm l (insBy k acc x)).trans ?_
    refine ((insBy_perm acc x).append_left l).trans ?_
    exact List.perm_middle
theorem foldBy_sorted {α : Type} {k : α → Int} : ∀ (l acc : List α), SortedBy k acc → SortedBy k (l.foldl (insBy k) acc)
  | [], acc, h => h
  | x :: l, acc, h => foldBy_sorted l _ (insBy_sorted h)
theorem sortBy_perm {α : Type} {k : α → Int} (l : List α) : (sortBy k l).Perm l := by unfold sortBy; simpa using foldBy_perm (k := k) l []
theorem sortBy_sorted {α : Type} {k : α → Int} (l : List α) : SortedBy k (sortBy k l) := foldBy_sorted l [] List.Pairwise.nil
theorem sortBy_mem {α : Type} {k : α → Int} {l : List α} {z : α} : z ∈ sortBy k l ↔ z ∈ l := (sortBy_perm l).mem_iff
theorem sortBy_len {α : Type} {k : α → Int} (l : List α) : (sortBy k l).length = l.length := (sortBy_perm l).length_eq
/-- ascending by a key, and the same things: the same -/
abbrev AscBy {α : Type} (k : α → Int) (l : List α) : Prop := l.Pairwise fun x y => k x < k y
theorem ascBy_ext {α : Type} {k : α → Int} : ∀ {a b : List α}, AscBy k a → AscBy k b → (∀ x, x ∈ a ↔ x ∈ b) → a = b
  | [], [], _, _, _ => rfl
  | [], y :: b, _, _, h => absurd ((h y).2 (List.mem_cons_self ..)) (by simp)
  | x :: a, [], _, _, h => absurd ((h x).1 (List.mem_cons_self ..)) (by simp)
  | x :: a, y :: b, ha, hb, h => by
    obtain ⟨ha1, ha2⟩ := List.pairwise_cons.1 ha
    obtain ⟨hb1, hb2⟩ := List.pairwise_cons.1 hb
    have e : x = y := by
      rcases List.mem_cons.1 ((h x).1 (List.mem_cons_self ..)) with q | q
      · exact q
      · rcases List.mem_cons.1 ((h y).2 (List.mem_cons_self ..)) with q' | q'
        · exact q'.symm
        · have := ha1 y q'; have := hb1 x q; omega
    subst e
    congr 1
    refine ascBy_ext ha2 hb2 fun z => ⟨fun hz => ?_, fun hz => ?_⟩
    · rcases List.mem_cons.1 ((h z).1 (List.mem_cons_of_mem _ hz)) with q | q
      · have := ha1 z hz; rw [q] at this; omega
      · exact q
    · rcases List.mem_cons.1 ((h z).2 (List.mem_cons_of_mem _ hz)) with q | q
      · have := hb1 z hz; rw [q] at this; omega
      · exact q
theorem asc_of_sorted {α : Type} {k : α → Int} : ∀ {l : List α}, SortedBy k l → (l.map k).Nodup → AscBy k l
  | [], _, _ => List.Pairwise.nil
  | x :: l, h, hn => by
    obtain ⟨h1, h2⟩ := List.pairwise_cons.1 h
    rw [List.map_cons, List.nodup_cons] at hn
    refine List.pairwise_cons.2 ⟨fun y hy => ?_, asc_of_sorted h2 hn.2⟩
    have := h1 y hy
    have : k x ≠ k y := fun e => hn.1 (by rw [e]; exact List.mem_map_of_mem hy)
    omega
def later (t w u x : Int) : Bool := decide (u < t) || (decide (t = u) && decide (x < w))
def joinReg (a b : Reg) : Reg := if later b.time b.who a.time a.who = true ∨ later a.time a.who b.time b.who = false ∧ a.val < b.val then b else a
def joinFlags (a b : List Reg) : List Reg := List.zipWith joinReg a b
def maxT (a b : List UInt8) : List UInt8 := if bless a b = true then b else a
def joinMail (a b : Mail) : Mail := if a.gid = b.gid then ⟨a.gid, Max.max a.uid b.uid, joinFlags a.flags b.flags, maxT a.text b.text⟩ else a
def mailIn (l : List Mail) (g : Int) : Option Mail := l.find? fun m => decide (m.gid = g)
theorem mailIn_some {l : List Mail} {g : Int} {m : Mail} (h : mailIn l g = some m) : m ∈ l ∧ m.gid = g := ⟨List.mem_of_find?_eq_some h, by simpa using List.find?_some h⟩
theorem mailIn_none {l : List Mail} {g : Int} : mailIn l g = none ↔ ∀ m ∈ l, m.gid ≠ g := by
  unfold mailIn; rw [List.find?_eq_none]; simp
theorem mailIn_mem {l : List Mail} (h : (l.map (·.gid)).Nodup) {m : Mail} (hm : m ∈ l) : mailIn l m.gid = some m := by
  induction l with
  | nil => simp at hm
  | cons x l ih =>
    rw [List.map_cons, List.nodup_cons] at h
    unfold mailIn at ih ⊢
    rw [List.find?_cons]
    rcases List.mem_cons.1 hm with rfl | hm
    · simp
    · have : x.gid ≠ m.gid := fun e => h.1 (by rw [e]; exact List.mem_map_of_mem hm)
      simp only [this, decide_false]
      exact ih h.2 hm
def gids (l : List Mail) : List Int := l.map (·.gid)
def joinM (a b : List Mail) (g : Int) : Mail := match mailIn a g, mailIn b g with
  | some x, some y => joinMail x y
  | some x, none => x
  | none, some y => y
  | none, none => ⟨0, 0, [], []⟩
def needs (a b : Box) (g : Int) : Bool := (holds a g && !keepsUid a b g) || (holds b g && !keepsUid b a g)
def stepJ (a b : Box) (s : List Mail × Int) (g : Int) : List Mail × Int :=
  if g ∈ a.gone ∨ g ∈ b.gone then s else
  if needs a b g = true then (insBy (·.uid) s.1 { joinM a.mails b.mails g with uid := s.2 }, s.2 + 1) else (insBy (·.uid) s.1 (joinM a.mails b.mails g), s.2)
/-- the other side's way -/
def joinedS (a b : Box) : List Mail × Int := (joinGone (gids a.mails) (gids b.mails)).foldl (stepJ a b) ([], Max.max a.next b.next)
/-- this side's way -/
def allM (a b : List Mail) : List Mail := a.map (fun m => match mailIn b m.gid with | some y => joinMail m y | none => m) ++ b.filter (fun m => (mailIn a m.gid).isNone)
def assignU (need : Int → Bool) : Int → List Mail → List Mail × Int
  | n, [] => ([], n)
  | n, m :: l => if need m.gid = true then ({ m with uid := n } :: (assignU need (n + 1) l).1, (assignU need (n + 1) l).2) else (m :: (assignU need n l).1, (assignU need n l).2)
def joinedI (a b : Box) : List Mail × Int :=
  let l := assignU (needs a b) (Max.max a.next b.next) (sortBy (·.gid) ((allM a.mails b.mails).filter fun m => !decide (m.gid ∈ joinGone a.gone b.gone)))
  (sortBy (·.uid) l.1, l.2)
theorem joinMail_gid (a b : Mail) : (joinMail a b).gid = a.gid := by unfold joinMail; split <;> rfl
theorem joinM_gid {a b : List Mail} {g : Int} (h : g ∈ gids a ∨ g ∈ gids b) : (joinM a b g).gid = g := by
  unfold joinM
  cases h1 : mailIn a g with
  | some x =>
    cases h2 : mailIn b g with
    | some y => simp only [joinMail_gid]; exact (mailIn_some h1).2
    | none => exact (mailIn_some h1).2
  | none =>
    cases h2 : mailIn b g with
    | some y => exact (mailIn_some h2).2
    | none =>
      exfalso
      rw [mailIn_none] at h1 h2
      rcases h with h | h
      · obtain ⟨m, hm, e⟩ := List.mem_map.1 h; exact h1 m hm e
      · obtain ⟨m, hm, e⟩ := List.mem_map.1 h; exact h2 m hm e
theorem allM_mem {a b : List Mail} (ha : (gids a).Nodup) (hb : (gids b).Nodup) {m : Mail} : m ∈ allM a b ↔ (m.gid ∈ gids a ∨ m.gid ∈ gids b) ∧ m = joinM a b m.gid := by
  simp only [allM, List.mem_append, List.mem_map, List.mem_filter]
  constructor
  · rintro (⟨x, hx, rfl⟩ | ⟨hm, hn⟩)
    · have h1 := mailIn_mem ha hx
      have hg : x.gid ∈ gids a := List.mem_map_of_mem hx
      cases h2 : mailIn b x.gid with
      | some y =>
        simp only [joinMail_gid]
        refine ⟨.inl hg, ?_⟩
        simp only [joinM, h1, h2]
      | none =>
        simp only
        refine ⟨.inl hg, ?_⟩
        simp only [joinM, h1, h2]
    · have h1 := mailIn_mem hb hm
      simp only [Option.isNone_iff_eq_none] at hn
      refine ⟨.inr (List.mem_map_of_mem hm), ?_⟩
      simp only [joinM, h1, hn]
  · rintro ⟨h, e⟩
    cases h1 : mailIn a m.gid with
    | some x =>
      left
      obtain ⟨k1, k2⟩ := mailIn_some h1
      refine ⟨x, k1, ?_⟩
      rw [e, k2]
      simp only [joinM, h1]
      cases h2 : mailIn b m.gid <;> rfl
    | none =>
      right
      cases h2 : mailIn b m.gid with
      | none =>
        exfalso
        rw [mailIn_none] at h1 h2
        rcases h with h | h
        · obtain ⟨m', hm, e⟩ := List.mem_map.1 h; exact h1 m' hm e
        · obtain ⟨m', hm, e⟩ := List.mem_map.1 h; exact h2 m' hm e
      | some y =>
        refine ⟨?_, by simp⟩
        have : m = y := by rw [e]; simp only [joinM, h1, h2]
        rw [this]; exact (mailIn_some h2).1
theorem allM_nodup {a b : List Mail} (ha : (gids a).Nodup) (hb : (gids b).Nodup) : (gids (allM a b)).Nodup := by
  have e1 : gids (a.map (fun m => match mailIn b m.gid with | some y => joinMail m y | none => m)) = gids a := by
    unfold gids; rw [List.map_map]
    apply List.map_congr_left
    intro m _
    simp only [Function.comp]
    split
    · exact joinMail_gid _ _
    · rfl
  unfold allM
  rw [gids, List.map_append]
  change (gids _ ++ gids _).Nodup
  rw [e1, List.nodup_append]
  refine ⟨ha, ?_, ?_⟩
  · exact hb.sublist (List.Sublist.map _ List.filter_sublist)
  · intro x hx y hy e
    subst e
    obtain ⟨m, hm, rfl⟩ := List.mem_map.1 hy
    rw [List.mem_filter] at hm
    simp only [Option.isNone_iff_eq_none, mailIn_none] at hm
    obtain ⟨m', hm', e⟩ := List.mem_map.1 hx
    exact hm.2 m' hm' e
theorem srt_eq {a b : Box} (ha : (gids a.mails).Nodup) (hb : (gids b.mails).Nodup) :
    sortBy (·.gid) ((allM a.mails b.mails).filter fun m => !decide (m.gid ∈ joinGone a.gone b.gone)) = ((joinGone (gids a.mails) (gids b.mails)).filter fun g => !decide (g ∈ joinGone a.gone b.gone)).map (joinM a.mails b.mails) := by
  refine ascBy_ext (k := fun m : Mail => m.gid) ?_ ?_ fun m => ?_
  · refine asc_of_sorted (sortBy_sorted _) ?_
    have hp := (sortBy_perm (k := fun m : Mail => m.gid) ((allM a.mails b.mails).filter fun m => !decide (m.gid ∈ joinGone a.gone b.gone))).map (fun m : Mail => m.gid)
    rw [hp.nodup_iff]
    exact (allM_nodup ha hb).sublist (List.Sublist.map _ List.filter_sublist)
  · rw [AscBy, List.pairwise_map]
    have h := (joinGone_asc (gids a.mails) (gids b.mails)).filter (fun g => !decide (g ∈ joinGone a.gone b.gone))
    refine List.Pairwise.imp_of_mem ?_ h
    intro x y hx hy hxy
    rw [List.mem_filter, joinGone_mem] at hx hy
    rw [joinM_gid hx.1, joinM_gid hy.1]
    exact hxy
  · rw [sortBy_mem, List.mem_filter, allM_mem ha hb, List.mem_map]
    constructor
    · rintro ⟨⟨h1, h2⟩, h3⟩
      exact ⟨m.gid, List.mem_filter.2 ⟨(joinGone_mem _ _ _).2 h1, h3⟩, h2.symm⟩
    · rintro ⟨g, hg, rfl⟩
      rw [List.mem_filter, joinGone_mem] at hg
      have := joinM_gid hg.1
      rw [this]
      exact ⟨⟨hg.1, rfl⟩, hg.2⟩
theorem fold_assign (a b : Box) : ∀ (gs : List Int) (acc : List Mail) (n : Int), (∀ g ∈ gs, g ∈ gids a.mails ∨ g ∈ gids b.mails) →
    gs.foldl (stepJ a b) (acc, n) = ((assignU (needs a b) n ((gs.filter fun g => !decide (g ∈ joinGone a.gone b.gone)).map (joinM a.mails b.mails))).1.foldl (insBy (·.uid)) acc, (assignU (needs a b) n ((gs.filter fun g => !decide (g ∈ joinGone a.gone b.gone)).map (joinM a.mails b.mails))).2)
  | [], acc, n, _ => by simp [assignU]
  | g :: gs, acc, n, h => by
    have ih := fun acc n => fold_assign a b gs acc n fun g hg => h g (List.mem_cons_of_mem _ hg)
    have hg := joinM_gid (h g (List.mem_cons_self ..))
    rw [List.foldl_cons, stepJ, List.filter_cons]
    by_cases c : g ∈ a.gone ∨ g ∈ b.gone
    · have c' : g ∈ joinGone a.gone b.gone := (joinGone_mem _ _ _).2 c
      rw [if_pos c, ih]
      simp [c']
    · have c' : ¬ g ∈ joinGone a.gone b.gone := fun q => c ((joinGone_mem _ _ _).1 q)
      rw [if_neg c]
      simp only [c', decide_false, Bool.not_false, if_true, List.map_cons, assignU, hg]
      by_cases c2 : needs a b g = true
      · rw [if_pos c2, if_pos c2, ih]; rfl
      · rw [if_neg c2, if_neg c2, ih]; rfl
theorem joined_eq {a b : Box} (ha : (gids a.mails).Nodup) (hb : (gids b.mails).Nodup) : joinedI a b = joinedS a b := by
  unfold joinedI joinedS
  rw [srt_eq ha hb, fold_assign a b _ _ _ fun g hg => (joinGone_mem _ _ _).1 hg]
  rfl
/-- what two boxes come to -/
def joinBox (a b : Box) : Box := if a.gid = b.gid then
    { gid := a.gid, name := if later b.time b.who a.time a.who = true ∨ later a.time a.who b.time b.who = false ∧ bless a.name b.name = true then b.name else a.name,
      time := if later b.time b.who a.time a.who = true ∨ later a.time a.who b.time b.who = false ∧ bless a.name b.name = true then b.time else a.time,
      who := if later b.time b.who a.time a.who = true ∨ later a.time a.who b.time b.who = false ∧ bless a.name b.name = true then b.who else a.who,
      next := (joinedS a b).2, mails := (joinedS a b).1, gone := joinGone a.gone b.gone } else a
end Mx

namespace Mx
open Go
variable {M : Nat → Option Body}
theorem impl_Later.says (h : impl_Later.k M) (t w u x : Int) : run M 275 [.a [I t, I w], .a [I u, I x]] [] = some (.c (.bool (later t w u x)), []) := by
  refine run_code (b := impl_Later.m) h ⟨0, ?_⟩
  unfold later
  by_cases c1 : u < t
  · simp (maxSteps := 1000000) [exB, impl_Later.m, impl_Later.b, List.range_succ, bs_get, setAt, c1]
  by_cases c2 : t = u
  · subst c2; simp (maxSteps := 1000000) [exB, impl_Later.m, impl_Later.b, List.range_succ, bs_get, setAt]
  · simp (maxSteps := 1000000) [exB, impl_Later.m, impl_Later.b, List.range_succ, bs_get, setAt, c1, c2]
theorem spec_Later.says (h : spec_Later.k M) (t w u x : Int) : run M 277 [.a [I t, I w], .a [I u, I x]] [] = some (.c (.bool (later t w u x)), []) := by
  refine run_code (b := spec_Later.m) h ⟨0, ?_⟩
  unfold later
  by_cases c2 : t = u
  · subst c2; simp (maxSteps := 1000000) [exB, spec_Later.m, spec_Later.b, List.range_succ, bs_get, setAt]
  · simp (maxSteps := 1000000) [exB, spec_Later.m, spec_Later.b, List.range_succ, bs_get, setAt, c2]
def putReg (r : Reg) (v t w : Int) : Reg := if later t w r.time r.who = true ∧ regOk ⟨v, t, w⟩ = true then ⟨v, t, w⟩ else r
theorem spec_PutReg.says (h : spec_PutReg.k M) (r : Reg) (v t w : Int) : run M 243 [.a (encReg r), .c (I v), .a [I t, I w]] [] = some (.a (encReg (putReg r v t w)), []) := by
  obtain ⟨h0, k1, k2⟩ := h
  have h1 := spec_RegOk.says k1 ⟨v, t, w⟩
  have h2 := spec_Later.says k2 t w r.time r.who
  refine run_code (b := spec_PutReg.m) h0 ⟨0, ?_⟩
  unfold putReg
  simp only [encReg] at h1
  generalize later t w r.time r.who = a at *
  generalize regOk ⟨v, t, w⟩ = b at *
  cases a <;> cases b <;> simp (maxSteps := 1000000) [exB, spec_PutReg.m, spec_PutReg.b, List.range_succ, bs_get, setAt, h1, h2, encReg]
def setFlag (n t w : Int) (i : Nat) (r : Reg) : Reg := if r.val = bitOf n i then r else putReg r (bitOf n i) t w
def setFlags (l : List Reg) (n t w : Int) : List Reg := if flagsOk l = true ∧ inR 0 n 7 = true then l.mapIdx (setFlag n t w) else l
/-- the first k are set -/
def setTo (l : List Reg) (n t w : Int) (k : Nat) : List Reg := l.mapIdx fun i r => if i < k then setFlag n t w i r else r
theorem setTo_zero (l : List Reg) (n t w : Int) : setTo l n t w 0 = l := by
  unfold setTo; simp [List.mapIdx_eq_iff]
theorem setTo_all (l : List Reg) (n t w : Int) : setTo l n t w l.length = l.mapIdx (setFlag n t w) := by
  unfold setTo
  apply List.ext_getElem
  · simp
  · intro i h1 h2; simp at h1 ⊢; intro h; omega
theorem setTo_len (l : List Reg) (n t w : Int) (k : Nat) : (setTo l n t w k).length = l.length := by simp [setTo]
theorem setTo_at (l : List Reg) (n t w : Int) (k : Nat) (h : k < l.length) : (setTo l n t w k)[k]'(by simpa [setTo] using h) = l[k] := by simp [setTo]
theorem setTo_succ (l : List Reg) (n t w : Int) (k : Nat) (h : k < l.length) : setTo l n t w (k + 1) = (setTo l n t w k).set k (setFlag n t w k l[k]) := by
  unfold setTo
  apply List.ext_getElem
  · simp
  · intro i h1 h2
    simp only [List.getElem_mapIdx, List.getElem_set]
    by_cases c : k = i
    · subst c; simp
    · rw [if_neg c]
      by_cases c2 : i < k
      · rw [if_pos c2, if_pos (by omega)]
      · rw [if_neg c2, if_neg (by omega)]
end Mx

namespace Mx
open Go
theorem reg_ext2 {a b : Reg} (h1 : a.val = b.val) (h2 : a.time = b.time) (h3 : a.who = b.who) : a = b := by
  cases a; cases b; simp at h1 h2 h3; simp [h1, h2, h3]
theorem later_iff {t w u x : Int} : later t w u x = true ↔ u < t ∨ t = u ∧ x < w := by
  simp [later]
theorem later_not {t w u x : Int} : later t w u x = false ↔ ¬ (u < t ∨ t = u ∧ x < w) := by
  rw [← later_iff]; simp
theorem joinReg_comm (a b : Reg) : joinReg a b = joinReg b a := by
  unfold joinReg
  simp only [later_iff, later_not]
  by_cases h1 : a.time < b.time ∨ b.time = a.time ∧ a.who < b.who
  · rw [if_pos (.inl h1), if_neg (by omega)]
  · by_cases h2 : b.time < a.time ∨ a.time = b.time ∧ b.who < a.who
    · rw [if_neg (by omega), if_pos (.inl h2)]
    · by_cases h3 : a.val < b.val
      · rw [if_pos (.inr ⟨h2, h3⟩), if_neg (by omega)]
      · by_cases h4 : b.val < a.val
        · rw [if_neg (by omega), if_pos (.inr ⟨h1, h4⟩)]
        · rw [if_neg (by omega), if_neg (by omega)]
          exact reg_ext2 (by omega) (by omega) (by omega)
theorem joinReg_self (a : Reg) : joinReg a a = a := by unfold joinReg; split <;> rfl
theorem joinFlags_comm : ∀ a b : List Reg, joinFlags a b = joinFlags b a
  | [], [] => rfl
  | [], _ :: _ => rfl
  | _ :: _, [] => rfl
  | x :: a, y :: b => by
    have := joinFlags_comm a b
    simp only [joinFlags, List.zipWith_cons_cons] at this ⊢
    rw [joinReg_comm, this]
theorem joinFlags_self : ∀ a : List Reg, joinFlags a a = a
  | [] => rfl
  | x :: a => by
    have := joinFlags_self a
    simp only [joinFlags, List.zipWith_cons_cons] at this ⊢
    rw [joinReg_self, this]
theorem bless_self : ∀ a, bless a a = false
  | [] => rfl
  | x :: a => by simp [bless, bless_self a]
theorem bless_tri : ∀ a b, bless a b = true ∧ bless b a = false ∨ bless a b = false ∧ bless b a = true ∨ bless a b = false ∧ bless b a = false ∧ a = b
  | [], [] => by simp [bless]
  | [], _ :: _ => by simp [bless]
  | _ :: _, [] => by simp [bless]
  | x :: a, y :: b => by
    have ih := bless_tri a b
    simp only [bless]
    by_cases h1 : x < y
    · have h2 : ¬ y < x := by rw [UInt8.lt_iff_toNat_lt] at *; omega
      have h3 : (y == x) = false := by
        rw [beq_eq_false_iff_ne]; rintro rfl; exact h2 h1
      left; simp [h1, h2, h3]
    · by_cases h2 : y < x
      · have h3 : (x == y) = false := by
          rw [beq_eq_false_iff_ne]; rintro rfl; exact h1 h2
        right; left; simp [h1, h2, h3]
      · have h3 : x = y := by
          rw [← UInt8.toNat_inj]; rw [UInt8.lt_iff_toNat_lt] at *; omega
        subst h3
        simpa [h1] using ih
theorem maxT_comm (a b : List UInt8) : maxT a b = maxT b a := by
  unfold maxT
  rcases bless_tri a b with ⟨h1, h2⟩ | ⟨h1, h2⟩ | ⟨h1, h2, h3⟩
  · simp [h1, h2]
  · simp [h1, h2]
  · simp [h1, h2, h3]
theorem maxT_self (a : List UInt8) : maxT a a = a := by unfold maxT; split <;> rfl
theorem joinMail_comm {a b : Mail} (h : a.gid = b.gid) : joinMail a b = joinMail b a := by
  unfold joinMail
  rw [if_pos h, if_pos h.symm, h, joinFlags_comm, maxT_comm, Int.max_comm]
theorem joinMail_self (a : Mail) : joinMail a a = a := by
  unfold joinMail
  rw [if_pos rfl, joinFlags_self, maxT_self, Int.max_self]
theorem joinM_comm (a b : List Mail) (g : Int) : joinM a b g = joinM b a g := by
  unfold joinM
  cases h1 : mailIn a g with
  | none => cases h2 : mailIn b g <;> rfl
  | some x =>
    cases h2 : mailIn b g with
    | none => rfl
    | some y => exact joinMail_comm ((mailIn_some h1).2.trans (mailIn_some h2).2.symm)
theorem needs_comm (a b : Box) (g : Int) : needs a b g = needs b a g := by unfold needs; rw [Bool.or_comm]
theorem joinGone_comm (a b : List Int) : joinGone a b = joinGone b a :=
  asc_ext (joinGone_asc a b) (joinGone_asc b a) fun z => by rw [joinGone_mem, joinGone_mem, or_comm]
theorem joinedS_comm (a b : Box) : joinedS a b = joinedS b a := by
  unfold joinedS
  rw [joinGone_comm, Int.max_comm]
  congr 1
  funext s g
  simp only [stepJ, joinM_comm a.mails b.mails g, needs_comm a b g, or_comm (a := g ∈ a.gone)]
theorem box_eq {a b : Box} (h1 : a.gid = b.gid) (h2 : a.name = b.name) (h3 : a.time = b.time) (h4 : a.who = b.who) (h5 : a.next = b.next) (h6 : a.mails = b.mails) (h7 : a.gone = b.gone) : a = b := by
  cases a; cases b; simp at *; simp [h1, h2, h3, h4, h5, h6, h7]
theorem joinBox_comm {a b : Box} (h : a.gid = b.gid) : joinBox a b = joinBox b a := by
  unfold joinBox
  rw [if_pos h, if_pos h.symm]
  have key : (later b.time b.who a.time a.who = true ∨ later a.time a.who b.time b.who = false ∧ bless a.name b.name = true) ∧ ¬ (later a.time a.who b.time b.who = true ∨ later b.time b.who a.time a.who = false ∧ bless b.name a.name = true) ∨
      ¬ (later b.time b.who a.time a.who = true ∨ later a.time a.who b.time b.who = false ∧ bless a.name b.name = true) ∧ (later a.time a.who b.time b.who = true ∨ later b.time b.who a.time a.who = false ∧ bless b.name a.name = true) ∨
      (¬ (later b.time b.who a.time a.who = true ∨ later a.time a.who b.time b.who = false ∧ bless a.name b.name = true) ∧ ¬ (later a.time a.who b.time b.who = true ∨ later b.time b.who a.time a.who = false ∧ bless b.name a.name = true) ∧ a.name = b.name ∧ a.time = b.time ∧ a.who = b.who) := by
    simp only [later_iff, later_not]
    rcases bless_tri a.name b.name with ⟨h1, h2⟩ | ⟨h1, h2⟩ | ⟨h1, h2, h3⟩ <;> simp only [h1, h2, Bool.false_eq_true, and_true, and_false, or_false]
    · omega
    · omega
    · simp only [h3, true_and]; omega
  refine box_eq h ?_ ?_ ?_ ?_ ?_ (joinGone_comm _ _)
  · rcases key with ⟨k1, k2⟩ | ⟨k1, k2⟩ | ⟨k1, k2, k3, k4, k5⟩ <;> simp only [k1, k2, if_true, if_false] <;> assumption
  · rcases key with ⟨k1, k2⟩ | ⟨k1, k2⟩ | ⟨k1, k2, k3, k4, k5⟩ <;> simp only [k1, k2, if_true, if_false] <;> assumption
  · rcases key with ⟨k1, k2⟩ | ⟨k1, k2⟩ | ⟨k1, k2, k3, k4, k5⟩ <;> simp only [k1, k2, if_true, if_false] <;> assumption
  · rw [joinedS_comm]
  · rw [joinedS_comm]
end Mx

namespace Mx
open Go
variable {M : Nat → Option Body}
theorem impl_JoinReg.says (h : impl_JoinReg.k M) (a b : Reg) : run M 485 [.a (encReg a), .a (encReg b)] [] = some (.a (encReg (joinReg a b)), []) := by
  obtain ⟨h0, k1⟩ := h
  have h1 := impl_Later.says k1 b.time b.who a.time a.who
  have h2 := impl_Later.says k1 a.time a.who b.time b.who
  refine run_code (b := impl_JoinReg.m) h0 ⟨0, ?_⟩
  unfold joinReg
  generalize later b.time b.who a.time a.who = x at *
  generalize later a.time a.who b.time b.who = y at *
  by_cases c : a.val < b.val
  · cases x <;> cases y <;> simp (maxSteps := 1000000) [exB, impl_JoinReg.m, impl_JoinReg.b, List.range_succ, bs_get, setAt, h1, h2, encReg, c]
  · cases x <;> cases y <;> simp (maxSteps := 1000000) [exB, impl_JoinReg.m, impl_JoinReg.b, List.range_succ, bs_get, setAt, h1, h2, encReg, c]
theorem joinReg_spec (a b : Reg) : joinReg a b = if later a.time a.who b.time b.who = true ∨ (a.time = b.time ∧ a.who = b.who) ∧ b.val ≤ a.val then a else b := by
  unfold joinReg
  simp only [later_iff, later_not]
  by_cases h1 : a.time < b.time ∨ b.time = a.time ∧ a.who < b.who
  · rw [if_pos (.inl h1), if_neg (by omega)]
  · by_cases h2 : b.time < a.time ∨ a.time = b.time ∧ b.who < a.who
    · rw [if_neg (by omega), if_pos (.inl h2)]
    · by_cases h3 : a.val < b.val
      · rw [if_pos (.inr ⟨h2, h3⟩), if_neg (by omega)]
      · rw [if_neg (by omega), if_pos (by omega)]
set_option maxHeartbeats 1000000 in
theorem spec_JoinReg.says (h : spec_JoinReg.k M) (a b : Reg) : run M 488 [.a (encReg a), .a (encReg b)] [] = some (.a (encReg (joinReg a b)), []) := by
  obtain ⟨h0, k1⟩ := h
  have h2 := spec_Later.says k1 a.time a.who b.time b.who
  refine run_code (b := spec_JoinReg.m) h0 ⟨0, ?_⟩
  rw [joinReg_spec]
  obtain ⟨av, t, w⟩ := a
  obtain ⟨bv, u, x⟩ := b
  simp only at *
  generalize later t w u x = y at *
  by_cases c2 : t = u
  · subst c2
    by_cases c3 : w = x
    · subst c3
      by_cases c : bv ≤ av <;> cases y <;> simp (maxSteps := 1000000) [exB, spec_JoinReg.m, spec_JoinReg.b, List.range_succ, bs_get, setAt, h2, encReg, c]
    · cases y <;> simp (maxSteps := 1000000) [exB, spec_JoinReg.m, spec_JoinReg.b, List.range_succ, bs_get, setAt, h2, encReg, c3]
  · cases y <;> simp (maxSteps := 1000000) [exB, spec_JoinReg.m, spec_JoinReg.b, List.range_succ, bs_get, setAt, h2, encReg, c2]
theorem joinFlags_len (a b : List Reg) : (joinFlags a b).length = Min.min a.length b.length := by simp [joinFlags]
def jfS (a b : List Reg) (i : Nat) (x : Nat × Nat) : St := { t := [(0, .c (regs a)), (1, .c (regs b)), (5, .c (.row 7 x.1 0 i)), (6, .c (I i))], o := [(7, ⟨x.1, 3, true, false, ((joinFlags a b).take i).map encReg⟩)], n := x.2 }
def jfE (a b : List Reg) (x : Nat × Nat) : St := { t := [(0, .c (regs a)), (1, .c (regs b)), (5, .c (.row 7 x.1 0 (Min.min a.length b.length))), (6, .c (I (Min.min a.length b.length : Nat))), (17, .c (.bool false))], o := [(7, ⟨x.1, 3, true, false, ((joinFlags a b).take (Min.min a.length b.length)).map encReg⟩)], n := x.2 }
theorem impl_JoinFlags.says (h : impl_JoinFlags.k M) (a b : List Reg) (ha : a.length ≤ 1048576) (hb : b.length ≤ 1048576) : run M 470 [.c (regs a), .c (regs b)] [] = some (.c (.sl true 3 ((joinFlags a b).map encReg)), []) := by
  obtain ⟨h0, k1⟩ := h
  refine run_code (b := impl_JoinFlags.m) h0 ⟨Min.min a.length b.length + 1, ?_⟩
  have hlen := joinFlags_len a b
  obtain ⟨g, hr⟩ := count_loop (f := exC (run M) (Min.min a.length b.length + 1) impl_JoinFlags.l0) (Min.min a.length b.length) (jfS a b) 0 (jfE a b)
    (fun i hi x => by
      obtain ⟨v, n⟩ := x
      have hia : i < a.length := by omega
      have hib : i < b.length := by omega
      have h1 := impl_JoinReg.says k1 a[i] b[i]
      have e5 := wrap1 (i := i) (by omega)
      have e6 : i + 1 ≤ 4294967296 := by omega
      have e7 : (((joinFlags a b).take i).map encReg).length = i := by simp [hlen]; omega
      have e8 : (((joinFlags a b).take (i + 1)).map encReg) = ((joinFlags a b).take i).map encReg ++ [encReg (joinReg a[i] b[i])] := by
        rw [take_snoc _ _ (by rw [hlen]; exact hi), List.map_append]; simp [joinFlags]
      simp only [jfS, e8, Prod.exists]
      generalize ((joinFlags a b).take i).map encReg = rr at *
      simp only [encReg] at h1
      simp (maxSteps := 1000000) [impl_JoinFlags.l0, List.range_succ, bs_get, setAt, regs, hia, hib, h1, e5, e6, e7, encReg, List.take_of_length_le])
    (fun x => by
      obtain ⟨v, n⟩ := x
      simp only [Prod.exists]
      by_cases c : a.length ≤ b.length
      · have e : Min.min a.length b.length = a.length := by omega
        simp only [jfS, jfE, e]
        simp (maxSteps := 1000000) [impl_JoinFlags.l0, List.range_succ, bs_get, setAt, regs]
      · have e : Min.min a.length b.length = b.length := by omega
        have c2 : b.length < a.length := by omega
        simp only [jfS, jfE, e]
        simp (maxSteps := 1000000) [impl_JoinFlags.l0, List.range_succ, bs_get, setAt, regs, c2])
  have hr0 := hr (2000016, 2000064)
  obtain ⟨v, n⟩ := g (2000016, 2000064)
  have e9 : (joinFlags a b).take (Min.min a.length b.length) = joinFlags a b := List.take_of_length_le (by omega)
  have e10 : ((joinFlags a b).map encReg).length = Min.min a.length b.length := by simp [hlen]
  simp only [jfS, jfE, e9, List.take_zero, List.map_nil] at hr0
  generalize (joinFlags a b).map encReg = rr at *
  generalize Min.min a.length b.length = k at *
  simp at hr0
  simp (maxSteps := 1000000) [exB, impl_JoinFlags.m, impl_JoinFlags.b, List.range_succ, bs_get, setAt, hr0, e10, List.take_of_length_le]
theorem spec_JoinFlags.says (h : spec_JoinFlags.k M) (a b : List Reg) (ha : a.length ≤ 1048576) (hb : b.length ≤ 1048576) : run M 472 [.c (regs a), .c (regs b)] [] = some (.c (.sl true 3 ((joinFlags a b).map encReg)), []) := by
  obtain ⟨h0, k1⟩ := h
  refine run_code (b := spec_JoinFlags.m) h0 ⟨Min.min a.length b.length + 1, ?_⟩
  have hlen := joinFlags_len a b
  obtain ⟨g, hr⟩ := count_loop (f := exC (run M) (Min.min a.length b.length + 1) spec_JoinFlags.l0) (Min.min a.length b.length) (jfS a b) 0 (jfE a b)
    (fun i hi x => by
      obtain ⟨v, n⟩ := x
      have hia : i < a.length := by omega
      have hib : i < b.length := by omega
      have h1 := spec_JoinReg.says k1 a[i] b[i]
      have e5 := wrap1 (i := i) (by omega)
      have e6 : i + 1 ≤ 4294967296 := by omega
      have e7 : (((joinFlags a b).take i).map encReg).length = i := by simp [hlen]; omega
      have e8 : (((joinFlags a b).take (i + 1)).map encReg) = ((joinFlags a b).take i).map encReg ++ [encReg (joinReg a[i] b[i])] := by
        rw [take_snoc _ _ (by rw [hlen]; exact hi), List.map_append]; simp [joinFlags]
      simp only [jfS, e8, Prod.exists]
      generalize ((joinFlags a b).take i).map encReg = rr at *
      simp only [encReg] at h1
      simp (maxSteps := 1000000) [spec_JoinFlags.l0, List.range_succ, bs_get, setAt, regs, hia, hib, h1, e5, e6, e7, encReg, List.take_of_length_le])
    (fun x => by
      obtain ⟨v, n⟩ := x
      simp only [Prod.exists]
      by_cases c : a.length ≤ b.length
      · have e : Min.min a.length b.length = a.length := by omega
        simp only [jfS, jfE, e]
        simp (maxSteps := 1000000) [spec_JoinFlags.l0, List.range_succ, bs_get, setAt, regs]
      · have e : Min.min a.length b.length = b.length := by omega
        have c2 : b.length < a.length := by omega
        simp only [jfS, jfE, e]
        simp (maxSteps := 1000000) [spec_JoinFlags.l0, List.range_succ, bs_get, setAt, regs, c2])
  have hr0 := hr (2000016, 2000064)
  obtain ⟨v, n⟩ := g (2000016, 2000064)
  have e9 : (joinFlags a b).take (Min.min a.length b.length) = joinFlags a b := List.take_of_length_le (by omega)
  have e10 : ((joinFlags a b).map encReg).length = Min.min a.length b.length := by simp [hlen]
  simp only [jfS, jfE, e9, List.take_zero, List.map_nil] at hr0
  generalize (joinFlags a b).map encReg = rr at *
  generalize Min.min a.length b.length = k at *
  simp at hr0
  simp (maxSteps := 1000000) [exB, spec_JoinFlags.m, spec_JoinFlags.b, List.range_succ, bs_get, setAt, hr0, e10, List.take_of_length_le]
theorem bless_gtr (a b : List UInt8) : (!bless b a && !decide (b = a)) = bless a b := by
  rcases bless_tri a b with ⟨h1, h2⟩ | ⟨h1, h2⟩ | ⟨h1, h2, h3⟩
  · have : ¬ b = a := by rintro rfl; rw [bless_self] at h1; cases h1
    simp [h1, h2, this]
  · simp [h1, h2]
  · simp [h3, bless_self]
theorem joinMail_flags (a b : Mail) : (joinMail a b).flags.length ≤ a.flags.length := by
  unfold joinMail
  split
  · simp only [joinFlags_len]; omega
  · exact Nat.le_refl _
theorem impl_JoinMail.says (h : impl_JoinMail.k M) (a b : Mail) (ha : a.flags.length ≤ 1048576) (hb : b.flags.length ≤ 1048576) : run M 452 [.a (encMail a), .a (encMail b)] [] = some (.a (encMailO (joinMail a b)), []) := by
  obtain ⟨h0, k1, k2⟩ := h
  have h1 := impl_copyMail.says k1 a ha
  have h2 := impl_JoinFlags.says k2 a.flags b.flags ha hb
  refine run_code (b := impl_JoinMail.m) h0 ⟨0, ?_⟩
  unfold joinMail
  by_cases c : a.gid = b.gid
  · rw [if_pos c]
    simp only [encMail, encMailO, regs, maxT] at *
    have e1 : ((joinFlags a.flags b.flags).map encReg).length = (joinFlags a.flags b.flags).length := by simp
    generalize (joinFlags a.flags b.flags).map encReg = rf at *
    generalize a.flags.map encReg = ra at *
    generalize b.flags.map encReg = rb at *
    have e2 : Max.max a.uid b.uid = if b.uid > a.uid then b.uid else a.uid := by split <;> omega
    rw [e2]
    by_cases c2 : a.uid < b.uid
    · cases c3 : bless a.text b.text <;> simp (maxSteps := 1000000) [exB, impl_JoinMail.m, impl_JoinMail.b, List.range_succ, bs_get, setAt, h2, c, c2, c3, e1, max2, List.take_of_length_le]
    · cases c3 : bless a.text b.text <;> simp (maxSteps := 1000000) [exB, impl_JoinMail.m, impl_JoinMail.b, List.range_succ, bs_get, setAt, h2, c, c2, c3, e1, max2, List.take_of_length_le]
  · rw [if_neg c]
    have e1 : (a.flags.map encReg).length = a.flags.length := by simp
    simp only [encMail, encMailO, regs] at *
    generalize a.flags.map encReg = ra at *
    generalize b.flags.map encReg = rb at *
    simp (maxSteps := 1000000) [exB, impl_JoinMail.m, impl_JoinMail.b, List.range_succ, bs_get, setAt, h1, c, e1, List.take_of_length_le]
set_option maxHeartbeats 1000000 in
theorem spec_JoinMail.says (h : spec_JoinMail.k M) (a b : Mail) (ha : a.flags.length ≤ 1048576) (hb : b.flags.length ≤ 1048576) : run M 461 [.a (encMail a), .a (encMail b)] [] = some (.a (encMailO (joinMail a b)), []) := by
  obtain ⟨h0, k1, k2⟩ := h
  have h1 := spec_l05Copy.says k1 a ha
  have h2 := spec_JoinFlags.says k2 a.flags b.flags ha hb
  refine run_code (b := spec_JoinMail.m) h0 ⟨0, ?_⟩
  unfold joinMail
  by_cases c : a.gid = b.gid
  · rw [if_pos c]
    simp only [encMail, encMailO, regs, maxT] at *
    have e1 : ((joinFlags a.flags b.flags).map encReg).length = (joinFlags a.flags b.flags).length := by simp
    have e3 : (a.flags.map encReg).length = a.flags.length := by simp
    generalize (joinFlags a.flags b.flags).map encReg = rf at *
    generalize a.flags.map encReg = ra at *
    generalize b.flags.map encReg = rb at *
    have e2 : Max.max a.uid b.uid = if a.uid < b.uid then b.uid else a.uid := by split <;> omega
    rw [e2]
    rw [c] at h1
    have e4 := bless_gtr a.text b.text
    by_cases c2 : a.uid < b.uid
    · cases c3 : bless a.text b.text <;> simp (maxSteps := 1000000) [exB, spec_JoinMail.m, spec_JoinMail.b, List.range_succ, bs_get, setAt, h1, h2, c, c2, c3, e1, e3, e4, List.take_of_length_le]
    · cases c3 : bless a.text b.text <;> simp (maxSteps := 1000000) [exB, spec_JoinMail.m, spec_JoinMail.b, List.range_succ, bs_get, setAt, h1, h2, c, c2, c3, e1, e3, e4, List.take_of_length_le]
  · rw [if_neg c]
    have e1 : (a.flags.map encReg).length = a.flags.length := by simp
    simp only [encMail, encMailO, regs] at *
    generalize a.flags.map encReg = ra at *
    generalize b.flags.map encReg = rb at *
    simp (maxSteps := 1000000) [exB, spec_JoinMail.m, spec_JoinMail.b, List.range_succ, bs_get, setAt, h1, c, e1, List.take_of_length_le]
end Mx

namespace Mx
open Go
/-- a loop whose rounds are told by an invariant alone -/
theorem loop_ex {σ : Type} {f : St → Option (Out × St)} (S : σ → St) (Inv : σ → Prop) (μ : σ → Nat) (Post : Out × St → Prop)
    (h : ∀ s, Inv s → (∃ s', f (S s) = some (.normal, S s') ∧ Inv s' ∧ μ s' < μ s) ∨ (∃ r, f (S s) = some r ∧ r.1 ≠ .normal ∧ Post r)) :
    ∀ m s, Inv s → μ s < m → ∃ r, loopN f m (S s) = some r ∧ Post r
  | 0, s, _, hm => by omega
  | m + 1, s, hi, hm => by
    rcases h s hi with ⟨s', h1, h2, h3⟩ | ⟨⟨o, r⟩, h1, h2, h3⟩
    · obtain ⟨r, q1, q2⟩ := loop_ex S Inv μ Post h m s' h2 (by omega)
      exact ⟨r, by simp only [loopN, h1]; exact q1, q2⟩
    · refine ⟨(o, r), ?_, h3⟩
      simp only [loopN, h1]
      cases o with
      | normal => exact (h2 rfl).elim
      | _ => rfl
end Mx

namespace Mx
open Go
variable {M : Nat → Option Body}
def cmpI (x y : Int) : Int := if x < y then -1 else if y < x then 1 else 0
theorem cmpI_neg {x y : Int} : cmpI x y < 0 ↔ x < y := by unfold cmpI; split <;> (try split) <;> omega
theorem impl_compare.says (h : impl_compare.k M) (x y : Int) : run M 457 [.c (I x), .c (I y)] [] = some (.c (I (cmpI x y)), []) := by
  refine run_code (b := impl_compare.m) h ⟨0, ?_⟩
  unfold cmpI
  by_cases c : x < y
  · simp (maxSteps := 1000000) [exB, impl_compare.m, impl_compare.b, List.range_succ, bs_get, setAt, c]
  · by_cases c2 : y < x
    · simp (maxSteps := 1000000) [exB, impl_compare.m, impl_compare.b, List.range_succ, bs_get, setAt, c, c2]
    · simp (maxSteps := 1000000) [exB, impl_compare.m, impl_compare.b, List.range_succ, bs_get, setAt, c, c2]
theorem impl_joined_2.says (h : impl_joined_2.k M) (x y : Mail) : run M 456 [.a (encMail x), .a (encMail y)] [] = some (.c (I (cmpI x.gid y.gid)), []) := by
  have h1 := impl_compare.says h.2 x.gid y.gid
  refine run_code (b := impl_joined_2.m) h.1 ⟨0, ?_⟩
  simp (maxSteps := 1000000) [exB, impl_joined_2.m, impl_joined_2.b, List.range_succ, bs_get, setAt, h1, encMail]
theorem impl_joined_3.says (h : impl_joined_3.k M) (x y : Mail) : run M 458 [.a (encMail x), .a (encMail y)] [] = some (.c (I (cmpI x.uid y.uid)), []) := by
  have h1 := impl_compare.says h.2 x.uid y.uid
  refine run_code (b := impl_joined_3.m) h.1 ⟨0, ?_⟩
  simp (maxSteps := 1000000) [exB, impl_joined_3.m, impl_joined_3.b, List.range_succ, bs_get, setAt, h1, encMail]
/-- what comes behind an insertion from the right -/
theorem insBy_step {α : Type} {k : α → Int} (P : List α) (y x : α) (Q : List α) (h : k x < k y) : insBy k (P ++ [y]) x ++ Q = insBy k P x ++ (y :: Q) := by
  have h1 : ¬ k y ≤ k x := by omega
  simp [insBy, List.filter_append, h, h1]
theorem insBy_stop {α : Type} {k : α → Int} (P : List α) (x : α) (h : ∀ y ∈ P, k y ≤ k x) : insBy k P x = P ++ [x] := by
  have h1 : P.filter (fun z => decide (k z ≤ k x)) = P := List.filter_eq_self.2 fun y hy => by simpa using h y hy
  have h2 : P.filter (fun z => decide (k x < k z)) = [] := List.filter_eq_nil_iff.2 fun y hy => by have := h y hy; simp; omega
  simp [insBy, h1, h2]
structure IsS where
  j : Nat
  D : List Mail
  n : Nat
def isS (f N i : Nat) (Z : List (List T)) (s : IsS) : St := { t := [(0, .c (.row 0 0 0 N)), (1, .c (I 0)), (2, .c (I N)), (3, .c (.fn f [])), (8, .c (I i)), (9, .c (I s.j))], o := [(0, ⟨0, 4, true, false, s.D.map encMail ++ Z⟩)], n := s.n }
def isE (f N i : Nat) (Z : List (List T)) (s : IsS) : St := { t := [(0, .c (.row 0 0 0 N)), (1, .c (I 0)), (2, .c (I N)), (3, .c (.fn f [])), (8, .c (I i)), (9, .c (I s.j)), (34, .c (.bool false))], o := [(0, ⟨0, 4, true, false, s.D.map encMail ++ Z⟩)], n := s.n }
structure IsI (k : Mail → Int) (N : Nat) (R : List Mail) (s : IsS) : Prop where
  len : s.D.length = N
  lt : s.j < N
  e : ∃ P x Q, P.length = s.j ∧ s.D = P ++ x :: Q ∧ SortedBy k P ∧ insBy k P x ++ Q = R
theorem map_at {α β : Type} {f : α → β} {P Q : List α} {x : α} {l : List β} (h : l = (P ++ x :: Q).map f) (i : Nat) (hi : i = P.length) : ∀ hh, l[i]'hh = f x := by
  subst h; subst hi; intro hh; simp
set_option maxHeartbeats 2000000 in
theorem is_swap {f : Nat} {g u g' u' : Int} {fl fl' : List (List T)} {tx tx' : List UInt8} {c : Int}
    (hcmp : run M f [.a [I g, I u, .sl false 3 fl, S tx], .a [I g', I u', .sl false 3 fl', S tx']] [] = some (.c (I c), [])) (hc : c < 0) (m N i j p : Nat) (hN : N ≤ 1048576) (rr : List (List T)) (e1 : IntKind.i64.wrap ((j : Int) - 1) = (p : Int)) (hj : j < N) (hp : p < N) (h0 : 0 < j) (e2 : j < rr.length) (e3 : p < rr.length) (hne : ¬ j = p) (hne' : ¬ p = j)
    (a1 : ∀ hh, rr[p]'hh = [I g', I u', .sl false 3 fl', S tx']) (a2 : ∀ hh, rr[j]'hh = [I g, I u, .sl false 3 fl, S tx]) (n : Nat) :
    ∃ n', exC (run M) m slices_insertionSortCmpFunc_impl_Mail.l1 { t := [(0, .c (.row 0 0 0 N)), (1, .c (I 0)), (2, .c (I N)), (3, .c (.fn f [])), (8, .c (I i)), (9, .c (I j))], o := [(0, ⟨0, 4, true, false, rr⟩)], n := n } =
      some (.normal, { t := [(0, .c (.row 0 0 0 N)), (1, .c (I 0)), (2, .c (I N)), (3, .c (.fn f [])), (8, .c (I i)), (9, .c (I p))], o := [(0, ⟨0, 4, true, false, (rr.set j [I g', I u', .sl false 3 fl', S tx']).set p [I g, I u, .sl false 3 fl, S tx]⟩)], n := n' }) := by
  simp (maxSteps := 1000000) [slices_insertionSortCmpFunc_impl_Mail.l1, List.range_succ, bs_get, setAt, hcmp, hc, a1, a2, e1, e2, e3, hj, hp, h0, hne, hne']
set_option maxHeartbeats 2000000 in
theorem is_stop {f : Nat} {g u g' u' : Int} {fl fl' : List (List T)} {tx tx' : List UInt8} {c : Int}
    (hcmp : run M f [.a [I g, I u, .sl false 3 fl, S tx], .a [I g', I u', .sl false 3 fl', S tx']] [] = some (.c (I c), [])) (hc : ¬ c < 0) (m N i j p : Nat) (hN : N ≤ 1048576) (rr : List (List T)) (e1 : IntKind.i64.wrap ((j : Int) - 1) = (p : Int)) (hj : j < N) (hp : p < N) (h0 : 0 < j) (e2 : j < rr.length) (e3 : p < rr.length) (hne : ¬ j = p) (hne' : ¬ p = j)
    (a1 : ∀ hh, rr[p]'hh = [I g', I u', .sl false 3 fl', S tx']) (a2 : ∀ hh, rr[j]'hh = [I g, I u, .sl false 3 fl, S tx]) (n : Nat) :
    ∃ n', exC (run M) m slices_insertionSortCmpFunc_impl_Mail.l1 { t := [(0, .c (.row 0 0 0 N)), (1, .c (I 0)), (2, .c (I N)), (3, .c (.fn f [])), (8, .c (I i)), (9, .c (I j))], o := [(0, ⟨0, 4, true, false, rr⟩)], n := n } =
      some (.exit 2, { t := [(0, .c (.row 0 0 0 N)), (1, .c (I 0)), (2, .c (I N)), (3, .c (.fn f [])), (8, .c (I i)), (9, .c (I j)), (34, .c (.bool false))], o := [(0, ⟨0, 4, true, false, rr⟩)], n := n' }) := by
  simp (maxSteps := 1000000) [slices_insertionSortCmpFunc_impl_Mail.l1, List.range_succ, bs_get, setAt, hcmp, hc, a1, a2, e1, e2, e3, hj, hp, h0, hne, hne']
theorem is_nil {f : Nat} (m N i : Nat) (rr : List (List T)) (n : Nat) :
    ∃ n', exC (run M) m slices_insertionSortCmpFunc_impl_Mail.l1 { t := [(0, .c (.row 0 0 0 N)), (1, .c (I 0)), (2, .c (I N)), (3, .c (.fn f [])), (8, .c (I i)), (9, .c (I 0))], o := [(0, ⟨0, 4, true, false, rr⟩)], n := n } =
      some (.exit 2, { t := [(0, .c (.row 0 0 0 N)), (1, .c (I 0)), (2, .c (I N)), (3, .c (.fn f [])), (8, .c (I i)), (9, .c (I 0)), (34, .c (.bool false))], o := [(0, ⟨0, 4, true, false, rr⟩)], n := n' }) := by
  simp (maxSteps := 1000000) [slices_insertionSortCmpFunc_impl_Mail.l1, List.range_succ, bs_get, setAt]
theorem set_swap {α β : Type} (e : α → β) (P : List α) (x y : α) (Q : List α) : (((P ++ y :: x :: Q).map e).set (P.length + 1) (e y)).set P.length (e x) = (P ++ x :: y :: Q).map e := by
  apply List.ext_getElem
  · simp
  · intro q h1 h2
    simp only [List.getElem_set, List.map_append, List.map_cons, List.getElem_append, List.length_map]
    by_cases q1 : P.length = q
    · subst q1; simp
    · by_cases q2 : P.length + 1 = q
      · subst q2; have q4 : ¬ P.length + 1 < P.length := by omega
        have q5 : P.length + 1 - P.length = 1 := by omega
        simp [q4, q5]
      · by_cases q3 : q < P.length
        · simp [q1, q2, q3]
        · obtain ⟨w, rfl⟩ : ∃ w, q = P.length + 2 + w := ⟨q - P.length - 2, by omega⟩
          have : P.length + 2 + w - P.length = w + 2 := by omega
          simp [q1, q2, q3, this]
theorem is_turn {f : Nat} {k : Mail → Int} (hf : ∀ x y : Mail, run M f [.a (encMail x), .a (encMail y)] [] = some (.c (I (cmpI (k x) (k y))), [])) (m N i : Nat) (hN : N ≤ 1048576) (Z : List (List T)) (R : List Mail) (s : IsS) (hs : IsI k N R s) :
    (∃ s', exC (run M) m slices_insertionSortCmpFunc_impl_Mail.l1 (isS f N i Z s) = some (.normal, isS f N i Z s') ∧ IsI k N R s' ∧ s'.j < s.j) ∨
      (∃ r, exC (run M) m slices_insertionSortCmpFunc_impl_Mail.l1 (isS f N i Z s) = some r ∧ r.1 ≠ .normal ∧ ∃ s', r = (.exit 2, isE f N i Z s') ∧ s'.D = R) := by
  obtain ⟨j, D, n⟩ := s
  obtain ⟨hl, hj, P, x, Q, hP, hD, hsort, hR⟩ := hs
  simp only at hl hj hP hD
  rcases List.eq_nil_or_concat P with rfl | ⟨P', y, rfl⟩
  · right
    have hj0 : j = 0 := by simpa using hP.symm
    subst hj0
    obtain ⟨n', hh⟩ := is_nil (M := M) (f := f) m N i (D.map encMail ++ Z) n
    exact ⟨_, hh, by simp, ⟨0, D, n'⟩, rfl, by rw [← hR, hD]; simp [insBy]⟩
  · rw [List.concat_eq_append] at hP hD hsort hR
    have hlen : j = P'.length + 1 := by simpa using hP.symm
    have hDm : D.map encMail = (P' ++ y :: (x :: Q)).map encMail := by rw [hD]; simp
    have hDm2 : D.map encMail = ((P' ++ [y]) ++ x :: Q).map encMail := by rw [hD]
    have a1 : ∀ hh, (D.map encMail ++ Z)[P'.length]'hh = encMail y := by
      intro hh
      rw [List.getElem_append_left (by simp; omega)]
      exact map_at hDm P'.length rfl _
    have a2 : ∀ hh, (D.map encMail ++ Z)[j]'hh = encMail x := by
      intro hh
      rw [List.getElem_append_left (by simp; omega)]
      exact map_at hDm2 j (by simp [hlen]) _
    have hcmp := hf x y
    have e1 : IntKind.i64.wrap ((j : Int) - 1) = (P'.length : Int) := by rw [wrap_i64 (by omega) (by omega)]; omega
    by_cases c : k x < k y
    · left
      obtain ⟨n', hh⟩ := is_swap hcmp (cmpI_neg.2 c) m N i j P'.length hN (D.map encMail ++ Z) e1 hj (by omega) (by omega) (by simp; omega) (by simp; omega) (by omega) (by omega) a1 a2 n
      refine ⟨⟨P'.length, P' ++ x :: (y :: Q), n'⟩, ?_, ⟨by simp only; rw [hD] at hl; simp at hl ⊢; omega, by simp only; omega, P', x, y :: Q, rfl, rfl, (List.pairwise_append.1 hsort).1, by rw [← hR, insBy_step _ _ _ _ c]⟩, by simp only; omega⟩
      have hs := set_swap encMail P' x y Q
      simp only [isS]
      rw [← hs, ← hDm, ← hlen]
      rw [List.set_append_left _ _ (by simp; omega), List.set_append_left _ _ (by simp; omega)] at hh
      exact hh
    · right
      obtain ⟨n', hh⟩ := is_stop hcmp (fun q => c (cmpI_neg.1 q)) m N i j P'.length hN (D.map encMail ++ Z) e1 hj (by omega) (by omega) (by simp; omega) (by simp; omega) (by omega) (by omega) a1 a2 n
      refine ⟨_, hh, by simp, ⟨j, D, n'⟩, rfl, ?_⟩
      simp only
      rw [hD, ← hR, insBy_stop]
      · simp
      · intro z hz
        rcases List.mem_append.1 hz with q | q
        · have := (List.pairwise_append.1 hsort).2.2 z q y (by simp); omega
        · simp at q; subst q; omega
/-- the first i are in order -/
def sortTo (k : Mail → Int) (l : List Mail) (i : Nat) : List Mail := sortBy k (l.take i) ++ l.drop i
theorem sortTo_len (k : Mail → Int) (l : List Mail) (i : Nat) : (sortTo k l i).length = l.length := by
  simp only [sortTo, List.length_append, sortBy_len, List.length_take, List.length_drop]; omega
structure ItS where
  i : Nat
  n : Nat
def itS (f : Nat) (Z : List (List T)) (k : Mail → Int) (l : List Mail) (s : ItS) : St := { t := [(0, .c (.row 0 0 0 l.length)), (1, .c (I 0)), (2, .c (I l.length)), (3, .c (.fn f [])), (8, .c (I s.i))], o := [(0, ⟨0, 4, true, false, (sortTo k l s.i).map encMail ++ Z⟩)], n := s.n }
theorem it_turn {f : Nat} {k : Mail → Int} (hf : ∀ x y : Mail, run M f [.a (encMail x), .a (encMail y)] [] = some (.c (I (cmpI (k x) (k y))), [])) (m : Nat) (Z : List (List T)) (l : List Mail) (hN : l.length ≤ 1048576) (hm : l.length < m) (s : ItS) (hs : 1 ≤ s.i ∧ s.i < l.length) :
    ∃ n', exC (run M) m slices_insertionSortCmpFunc_impl_Mail.l0 (itS f Z k l s) = some (.normal, itS f Z k l ⟨s.i + 1, n'⟩) := by
  obtain ⟨i, n⟩ := s
  obtain ⟨h1, h2⟩ := hs
  simp only at h1 h2
  have htk : l.take (i + 1) = l.take i ++ [l[i]] := take_snoc l i h2
  have hdr : l.drop i = l[i] :: l.drop (i + 1) := List.drop_eq_getElem_cons h2
  have hR : insBy k (sortBy k (l.take i)) l[i] ++ l.drop (i + 1) = sortTo k l (i + 1) := by
    simp only [sortTo, htk]
    congr 1
    unfold sortBy
    rw [List.foldl_append]; rfl
  obtain ⟨r, hr, ⟨⟨j, D, n'⟩, rfl, hD⟩⟩ := loop_ex (f := exC (run M) m slices_insertionSortCmpFunc_impl_Mail.l1) (isS f l.length i Z) (IsI k l.length (sortTo k l (i + 1))) (fun s => s.j)
    (fun r => ∃ s', r = (.exit 2, isE f l.length i Z s') ∧ s'.D = sortTo k l (i + 1)) (fun s hs => is_turn hf m l.length i hN Z _ s hs) m ⟨i, sortTo k l i, n + 48 + 32⟩
    ⟨sortTo_len k l i, h2, sortBy k (l.take i), l[i], l.drop (i + 1), by rw [sortBy_len]; simp; omega, by simp only [sortTo, hdr], sortBy_sorted _, hR⟩ (by simp only; omega)
  simp only at hD
  subst hD
  simp only [isS, isE] at hr
  have e5 := wrap1 (i := i) (by omega)
  simp only [itS]
  generalize (sortTo k l i).map encMail ++ Z = r0 at *
  generalize (sortTo k l (i + 1)).map encMail ++ Z = r1 at *
  simp (maxSteps := 1000000) [slices_insertionSortCmpFunc_impl_Mail.l0, List.range_succ, bs_get, setAt, hr, h2, e5]
end Mx

namespace Mx
open Go
variable {M : Nat → Option Body}
def mRow (l : List Mail) (Z : List (List T)) : Nat × Ob := (0, ⟨0, 4, true, false, l.map encMail ++ Z⟩)
theorem sortTo_all (k : Mail → Int) (l : List Mail) : sortTo k l l.length = sortBy k l := by simp [sortTo]
theorem sortTo_one (k : Mail → Int) (l : List Mail) : sortTo k l 1 = l := by
  cases l with
  | nil => rfl
  | cons x l => simp [sortTo, sortBy, insBy]
def itE (f : Nat) (Z : List (List T)) (k : Mail → Int) (l : List Mail) (s : ItS) : St := { t := [(0, .c (.row 0 0 0 l.length)), (1, .c (I 0)), (2, .c (I l.length)), (3, .c (.fn f [])), (8, .c (I s.i)), (14, .c (.bool false))], o := [(0, ⟨0, 4, true, false, (sortTo k l s.i).map encMail ++ Z⟩)], n := s.n }
theorem it_end {f : Nat} {k : Mail → Int} (m : Nat) (Z : List (List T)) (l : List Mail) (i n : Nat) (h : l.length ≤ i) : ∃ n', exC (run M) m slices_insertionSortCmpFunc_impl_Mail.l0 (itS f Z k l ⟨i, n⟩) = some (.exit 0, itE f Z k l ⟨i, n'⟩) := by
  have h2 : ¬ i < l.length := by omega
  simp only [itS, itE]
  generalize (sortTo k l i).map encMail ++ Z = r0 at *
  simp (maxSteps := 1000000) [slices_insertionSortCmpFunc_impl_Mail.l0, List.range_succ, bs_get, setAt, h2]
theorem slices_insertionSortCmpFunc_impl_Mail.says (h : slices_insertionSortCmpFunc_impl_Mail.k M) {f : Nat} {k : Mail → Int} (hf : ∀ x y : Mail, run M f [.a (encMail x), .a (encMail y)] [] = some (.c (I (cmpI (k x) (k y))), []))
    (l : List Mail) (Z : List (List T)) (hN : l.length ≤ 1048576) : run M 486 [.c (.row 0 0 0 l.length), .c (I 0), .c (I l.length), .c (.fn f [])] [mRow l Z] = some (.tup [], [mRow (sortBy k l) Z]) := by
  refine run_code (b := slices_insertionSortCmpFunc_impl_Mail.m) h ⟨l.length + 1, ?_⟩
  obtain ⟨r, hr, ⟨⟨i, n'⟩, rfl, hi⟩⟩ := loop_ex (f := exC (run M) (l.length + 1) slices_insertionSortCmpFunc_impl_Mail.l0) (itS f Z k l) (fun s => 1 ≤ s.i ∧ (s.i ≤ l.length ∨ s.i = 1)) (fun s => l.length - s.i)
    (fun r => ∃ s', r = (.exit 0, itE f Z k l s') ∧ (s'.i = l.length ∨ l.length = 0 ∧ s'.i = 1))
    (fun s hs => by
      obtain ⟨i, n⟩ := s
      by_cases c : i < l.length
      · left
        obtain ⟨n', hh⟩ := it_turn hf (l.length + 1) Z l hN (by omega) ⟨i, n⟩ ⟨hs.1, c⟩
        exact ⟨_, hh, ⟨by simp only; omega, by simp only; omega⟩, by simp only; omega⟩
      · right
        obtain ⟨n', hh⟩ := it_end (M := M) (f := f) (k := k) (l.length + 1) Z l i n (by omega)
        simp only at hs
        exact ⟨_, hh, by simp, _, rfl, by simp only; omega⟩) (l.length + 1) ⟨1, 2000048⟩ ⟨by simp, by simp⟩ (by simp only; omega)
  have e1 : sortTo k l i = sortBy k l := by
    rcases hi with hi | ⟨h0, hi⟩
    · simp only at hi; rw [hi, sortTo_all]
    · have : l = [] := List.eq_nil_of_length_eq_zero h0
      subst this; simp [sortTo, sortBy]
  simp only [itS, itE, e1, sortTo_one] at hr
  have e2 : IntKind.i64.wrap 1 = 1 := by decide
  have e3 : ((1 : Nat) : Int) = 1 := rfl
  rw [e3] at hr
  simp only [mRow]
  generalize l.map encMail ++ Z = r0 at *
  generalize (sortBy k l).map encMail ++ Z = r1 at *
  simp (maxSteps := 1000000) [exB, slices_insertionSortCmpFunc_impl_Mail.m, slices_insertionSortCmpFunc_impl_Mail.b, List.range_succ, bs_get, setAt, hr, e2]
/-- from the end on there is nothing to be done -/
theorem slices_insertionSortCmpFunc_impl_Mail.rest (h : slices_insertionSortCmpFunc_impl_Mail.k M) {f : Nat} (l : List Mail) (Z : List (List T)) (hN : l.length ≤ 1048576) :
    run M 486 [.c (.row 0 0 0 l.length), .c (I l.length), .c (I l.length), .c (.fn f [])] [mRow l Z] = some (.tup [], [mRow l Z]) := by
  refine run_code (b := slices_insertionSortCmpFunc_impl_Mail.m) h ⟨1, ?_⟩
  have e2 : IntKind.i64.wrap ((l.length : Int) + 1) = (l.length : Int) + 1 := wrap_i64 (by omega) (by omega)
  have e3 : ¬ (l.length : Int) + 1 < l.length := by omega
  simp only [mRow]
  have e4 : l.length ≤ (l.map encMail ++ Z).length := by simp
  generalize l.map encMail ++ Z = r0 at *
  simp (maxSteps := 1000000) [exB, slices_insertionSortCmpFunc_impl_Mail.m, slices_insertionSortCmpFunc_impl_Mail.b, List.range_succ, bs_get, setAt, loopN, slices_insertionSortCmpFunc_impl_Mail.l0, e2, e3]
theorem slices_stableCmpFunc_impl_Mail.says (h : slices_stableCmpFunc_impl_Mail.k M) {f : Nat} {k : Mail → Int} (hf : ∀ x y : Mail, run M f [.a (encMail x), .a (encMail y)] [] = some (.c (I (cmpI (k x) (k y))), []))
    (l : List Mail) (Z : List (List T)) (hN : l.length ≤ 20) : run M 471 [.c (.row 0 0 0 l.length), .c (I l.length), .c (.fn f [])] [mRow l Z] = some (.tup [], [mRow (sortBy k l) Z]) := by
  obtain ⟨h0, k1⟩ := h
  have h1 := slices_insertionSortCmpFunc_impl_Mail.says k1 hf l Z (by omega)
  have h2 := slices_insertionSortCmpFunc_impl_Mail.rest k1 (f := f) (sortBy k l) Z (by rw [sortBy_len]; omega)
  rw [sortBy_len] at h2
  refine run_code (b := slices_stableCmpFunc_impl_Mail.m) h0 ⟨2, ?_⟩
  have e1 : l.length ≤ (l.map encMail ++ Z).length := by simp
  have e2 : l.length ≤ ((sortBy k l).map encMail ++ Z).length := by simp [sortBy_len]
  simp only [mRow] at h1 h2 ⊢
  generalize l.map encMail ++ Z = r0 at *
  generalize (sortBy k l).map encMail ++ Z = r1 at *
  by_cases c : l.length = 20
  · generalize l.length = N at *
    subst c
    simp only [Int.cast_ofNat_Int] at h1 h2
    have w1 : IntKind.i64.wrap 40 = 40 := by decide
    simp (maxSteps := 1000000) [exB, slices_stableCmpFunc_impl_Mail.m, slices_stableCmpFunc_impl_Mail.b, List.range_succ, bs_get, setAt, h1, h2, w1, loopN, slices_stableCmpFunc_impl_Mail.l0, slices_stableCmpFunc_impl_Mail.l1, e1, e2]
  · have c1 : ¬ (20 : Int) ≤ l.length := by omega
    have c2 : ¬ (20 : Int) < l.length := by omega
    have c3 : ¬ 20 ≤ l.length := by omega
    have c4 : ¬ 20 < l.length := by omega
    simp (maxSteps := 1000000) [exB, slices_stableCmpFunc_impl_Mail.m, slices_stableCmpFunc_impl_Mail.b, List.range_succ, bs_get, setAt, h1, h2, c1, c2, c3, c4, loopN, slices_stableCmpFunc_impl_Mail.l0, slices_stableCmpFunc_impl_Mail.l1, e1, e2]
theorem slices_SortStableFunc_impl_Mail_impl_Mail.says (h : slices_SortStableFunc_impl_Mail_impl_Mail.k M) {f : Nat} {k : Mail → Int} (hf : ∀ x y : Mail, run M f [.a (encMail x), .a (encMail y)] [] = some (.c (I (cmpI (k x) (k y))), []))
    (l : List Mail) (Z : List (List T)) (hN : l.length ≤ 20) : run M 455 [.c (.row 0 0 0 l.length), .c (.fn f [])] [mRow l Z] = some (.tup [], [mRow (sortBy k l) Z]) := by
  have h1 := slices_stableCmpFunc_impl_Mail.says h.2 hf l Z hN
  refine run_code (b := slices_SortStableFunc_impl_Mail_impl_Mail.m) h.1 ⟨0, ?_⟩
  have e1 : l.length ≤ (l.map encMail ++ Z).length := by simp
  simp only [mRow] at h1 ⊢
  generalize l.map encMail ++ Z = r0 at *
  generalize (sortBy k l).map encMail ++ Z = r1 at *
  simp (maxSteps := 1000000) [exB, slices_SortStableFunc_impl_Mail_impl_Mail.m, slices_SortStableFunc_impl_Mail_impl_Mail.b, List.range_succ, bs_get, setAt, h1, e1]
end Mx

namespace Mx
open Go
variable {M : Nat → Option Body}
def pAt {α : Type} (p : α → Bool) (l : List α) (i : Nat) : Bool := match l[i]? with | some m => p m | none => false
theorem pAt_at {α : Type} (p : α → Bool) (l : List α) (i : Nat) (h : i < l.length) : pAt p l i = p l[i] := by simp [pAt, h]
def igS (f : Nat) (cs : List T) (l : List Mail) (i : Nat) (x : Nat) : St := { t := [(0, .c (mails l)), (1, .c (.fn f [.vp cs 0])), (7, .c (I l.length)), (8, .c (I i))], o := [], n := x }
theorem slices_IndexFunc_impl_Mail_impl_Mail.gen (h : slices_IndexFunc_impl_Mail_impl_Mail.k M) {f : Nat} {cs : List T} {p : Mail → Bool} (hf : ∀ m, run M f [.a (encMail m), .c (.vp cs 0)] [] = some (.c (.bool (p m)), [])) (l : List Mail) (hl : l.length ≤ 1048576) :
    run M 161 [.c (mails l), .c (.fn f [.vp cs 0])] [] = some (.c (I (intO (firstN (pAt p l) l.length))), []) := by
  refine run_code (b := slices_IndexFunc_impl_Mail_impl_Mail.m) h ⟨l.length + 1, ?_⟩
  obtain ⟨g', hr⟩ := first_loop (f := exC (run M) (l.length + 1) slices_IndexFunc_impl_Mail_impl_Mail.l0) l.length (pAt p l) (igS f cs l) atFin atFin_ne
    (fun i hi x c => by
      have hm := hf l[i]
      rw [pAt_at p l i hi] at c
      rw [c] at hm
      have e5 := wrap1 (i := i) (by omega)
      simp [igS, slices_IndexFunc_impl_Mail_impl_Mail.l0, hi, hm, encMail, e5])
    (fun i hi x c => by
      have hm := hf l[i]
      rw [pAt_at p l i hi] at c
      rw [c] at hm
      simp [igS, slices_IndexFunc_impl_Mail_impl_Mail.l0, hi, hm, encMail, atFin]
      exact ⟨⟨[], [], _⟩, rfl⟩)
    (fun x => by simp [igS, slices_IndexFunc_impl_Mail_impl_Mail.l0, atFin])
  cases hm : firstN (pAt p l) l.length with
  | none =>
    simp [igS, hm, atFin] at hr
    simp [exB, slices_IndexFunc_impl_Mail_impl_Mail.m, slices_IndexFunc_impl_Mail_impl_Mail.b, List.range_succ, hr, intO]
  | some k =>
    simp [igS, hm, atFin] at hr
    simp [exB, slices_IndexFunc_impl_Mail_impl_Mail.m, slices_IndexFunc_impl_Mail_impl_Mail.b, List.range_succ, hr, intO]
theorem dl_keep {f : Nat} {cs : List T} {g u : Int} {fl : List (List T)} {tx : List UInt8} (hf : run M f [.a [I g, I u, .sl false 3 fl, S tx], .c (.vp cs 0)] [] = some (.c (.bool false), [])) (m N i j : Nat) (hN : N ≤ 1048576) (rr : List (List T)) (hj : j < N) (hi : i < N) (e2 : rr.length = N)
    (a1 : ∀ hh, rr[j]'hh = [I g, I u, .sl false 3 fl, S tx]) (n : Nat) (ri : List T) (a2 : rr[i]? = some ri) (a3 : ri.length = 4) :
    ∃ n', exC (run M) m slices_DeleteFunc_impl_Mail_impl_Mail.l0 { t := [(0, .c (.row 0 0 0 N)), (1, .c (.fn f [.vp cs 0])), (5, .c (I i)), (6, .c (I j))], o := [(0, ⟨0, 4, true, false, rr⟩)], n := n } =
      some (.normal, { t := [(0, .c (.row 0 0 0 N)), (1, .c (.fn f [.vp cs 0])), (5, .c (I (i + 1 : Nat))), (6, .c (I (j + 1 : Nat)))], o := [(0, ⟨0, 4, true, false, rr.set i [I g, I u, .sl false 3 fl, S tx]⟩)], n := n' }) := by
  have e5 := wrap1 (i := i) (by omega)
  have e6 := wrap1 (i := j) (by omega)
  match ri, a3 with
  | [r0, r1, r2, r3], _ =>
    have a4 : ∀ hh, rr[i]'hh = [r0, r1, r2, r3] := by
      intro hh; rw [List.getElem?_eq_getElem hh] at a2; exact Option.some.inj a2
    clear a2
    simp (maxSteps := 1000000) [slices_DeleteFunc_impl_Mail_impl_Mail.l0, List.range_succ, bs_get, setAt, hf, hj, hi, e2, a1, a4, e5, e6]
theorem dl_drop {f : Nat} {cs : List T} {g u : Int} {fl : List (List T)} {tx : List UInt8} (hf : run M f [.a [I g, I u, .sl false 3 fl, S tx], .c (.vp cs 0)] [] = some (.c (.bool true), [])) (m N i j : Nat) (hN : N ≤ 1048576) (rr : List (List T)) (hj : j < N) (e2 : rr.length = N)
    (a1 : ∀ hh, rr[j]'hh = [I g, I u, .sl false 3 fl, S tx]) (n : Nat) :
    ∃ n', exC (run M) m slices_DeleteFunc_impl_Mail_impl_Mail.l0 { t := [(0, .c (.row 0 0 0 N)), (1, .c (.fn f [.vp cs 0])), (5, .c (I i)), (6, .c (I j))], o := [(0, ⟨0, 4, true, false, rr⟩)], n := n } =
      some (.normal, { t := [(0, .c (.row 0 0 0 N)), (1, .c (.fn f [.vp cs 0])), (5, .c (I i)), (6, .c (I (j + 1 : Nat)))], o := [(0, ⟨0, 4, true, false, rr⟩)], n := n' }) := by
  have e6 := wrap1 (i := j) (by omega)
  simp (maxSteps := 1000000) [slices_DeleteFunc_impl_Mail_impl_Mail.l0, List.range_succ, bs_get, setAt, hf, hj, e2, a1, e6]
theorem dl_end {f : Nat} {cs : List T} (m N i j : Nat) (rr : List (List T)) (hj : ¬ j < N) (n : Nat) :
    ∃ n', exC (run M) m slices_DeleteFunc_impl_Mail_impl_Mail.l0 { t := [(0, .c (.row 0 0 0 N)), (1, .c (.fn f [.vp cs 0])), (5, .c (I i)), (6, .c (I j))], o := [(0, ⟨0, 4, true, false, rr⟩)], n := n } =
      some (.exit 0, { t := [(0, .c (.row 0 0 0 N)), (1, .c (.fn f [.vp cs 0])), (5, .c (I i)), (6, .c (I j)), (19, .c (.bool false))], o := [(0, ⟨0, 4, true, false, rr⟩)], n := n' }) := by
  simp (maxSteps := 1000000) [slices_DeleteFunc_impl_Mail_impl_Mail.l0, List.range_succ, bs_get, setAt, hj]
structure DlS where
  j : Nat
  D : List Mail
  n : Nat
def keptN (p : Mail → Bool) (l : List Mail) (j : Nat) : List Mail := (l.take j).filter fun m => !p m
def dlS (f : Nat) (cs : List T) (p : Mail → Bool) (l : List Mail) (s : DlS) : St := { t := [(0, .c (.row 0 0 0 l.length)), (1, .c (.fn f [.vp cs 0])), (5, .c (I (keptN p l s.j).length)), (6, .c (I s.j))], o := [(0, ⟨0, 4, true, false, s.D.map encMail⟩)], n := s.n }
def dlE (f : Nat) (cs : List T) (p : Mail → Bool) (l : List Mail) (s : DlS) : St := { t := [(0, .c (.row 0 0 0 l.length)), (1, .c (.fn f [.vp cs 0])), (5, .c (I (keptN p l s.j).length)), (6, .c (I s.j)), (19, .c (.bool false))], o := [(0, ⟨0, 4, true, false, s.D.map encMail⟩)], n := s.n }
structure DlI (p : Mail → Bool) (l : List Mail) (s : DlS) : Prop where
  j : s.j ≤ l.length
  len : s.D.length = l.length
  tk : s.D.take (keptN p l s.j).length = keptN p l s.j
  dr : s.D.drop s.j = l.drop s.j
  lt : (keptN p l s.j).length < s.j
theorem dl_turn {f : Nat} {cs : List T} {p : Mail → Bool} (hf : ∀ m, run M f [.a (encMail m), .c (.vp cs 0)] [] = some (.c (.bool (p m)), [])) (k : Nat) (l : List Mail) (hN : l.length ≤ 1048576) (s : DlS) (hs : DlI p l s) :
    (∃ s', exC (run M) k slices_DeleteFunc_impl_Mail_impl_Mail.l0 (dlS f cs p l s) = some (.normal, dlS f cs p l s') ∧ DlI p l s' ∧ l.length - s'.j < l.length - s.j) ∨
      (∃ r, exC (run M) k slices_DeleteFunc_impl_Mail_impl_Mail.l0 (dlS f cs p l s) = some r ∧ r.1 ≠ .normal ∧ ∃ s', r = (.exit 0, dlE f cs p l s') ∧ s'.j = l.length ∧ DlI p l s') := by
  obtain ⟨j, D, n⟩ := s
  obtain ⟨h1, h2, h3, h4, h5⟩ := hs
  simp only at h1 h2 h3 h4 h5
  by_cases c : j < l.length
  · left
    have hD : D[j]'(by omega) = l[j] := by
      have q1 := List.drop_eq_getElem_cons (l := D) (i := j) (by omega)
      have q2 := List.drop_eq_getElem_cons (l := l) (i := j) c
      rw [h4, q2] at q1
      exact (List.cons.inj q1).1.symm
    have hdr : D.drop (j + 1) = l.drop (j + 1) := by
      have q1 := List.drop_eq_getElem_cons (l := D) (i := j) (by omega)
      have q2 := List.drop_eq_getElem_cons (l := l) (i := j) c
      rw [h4, q2] at q1
      exact (List.cons.inj q1).2.symm
    have a1 : ∀ hh, (D.map encMail)[j]'hh = encMail l[j] := by intro hh; simp [hD]
    have e2 : (D.map encMail).length = l.length := by simpa using h2
    have hm := hf l[j]
    have ek : keptN p l (j + 1) = keptN p l j ++ if p l[j] = true then [] else [l[j]] := by
      simp only [keptN, take_snoc l j c, List.filter_append]
      cases q : p l[j] <;> simp [q]
    cases q : p l[j] with
    | true =>
      rw [q] at hm
      obtain ⟨n', hh⟩ := dl_drop hm k l.length (keptN p l j).length j hN (D.map encMail) c e2 a1 n
      rw [q] at ek
      simp only [if_true, List.append_nil] at ek
      refine ⟨⟨j + 1, D, n'⟩, ?_, ⟨by simp only; omega, h2, by simp only [ek]; exact h3, hdr, by simp only [ek]; omega⟩, by simp only; omega⟩
      simp only [dlS, ek]
      exact hh
    | false =>
      rw [q] at hm
      have hi : (keptN p l j).length < l.length := by omega
      obtain ⟨n', hh⟩ := dl_keep hm k l.length (keptN p l j).length j hN (D.map encMail) c hi e2 a1 n (encMail (D[(keptN p l j).length]'(by omega))) (by rw [List.getElem?_map, List.getElem?_eq_getElem (by omega)]; rfl) rfl
      rw [q] at ek
      simp only [Bool.false_eq_true, if_false] at ek
      have el : (keptN p l (j + 1)).length = (keptN p l j).length + 1 := by rw [ek]; simp
      refine ⟨⟨j + 1, D.set (keptN p l j).length l[j], n'⟩, ?_, ⟨by simp only; omega, by simpa using h2, ?_, ?_, by simp only [el]; omega⟩, by simp only; omega⟩
      · simp only [dlS, el, List.map_set]
        exact hh
      · show (D.set (keptN p l j).length l[j]).take (keptN p l (j + 1)).length = keptN p l (j + 1)
        rw [el, ek, take_snoc _ _ (by simp; omega), List.take_set_of_le (Nat.le_refl _), h3]
        simp
      · simp only
        rw [List.drop_set_of_lt (by omega)]
        exact hdr
  · right
    have hj : j = l.length := by omega
    obtain ⟨n', hh⟩ := dl_end (M := M) (f := f) (cs := cs) k l.length (keptN p l j).length j (D.map encMail) c n
    exact ⟨_, hh, by simp, ⟨j, D, n'⟩, rfl, hj, ⟨h1, h2, h3, h4, h5⟩⟩
theorem slices_DeleteFunc_impl_Mail_impl_Mail.says (h : slices_DeleteFunc_impl_Mail_impl_Mail.k M) {f : Nat} {cs : List T} {p : Mail → Bool} (hf : ∀ m, run M f [.a (encMail m), .c (.vp cs 0)] [] = some (.c (.bool (p m)), [])) (l : List Mail) (hl : l.length ≤ 1048576) :
    run M 453 [.c (.row 0 0 0 l.length), .c (.fn f [.vp cs 0])] [mRow l []] =
      some (.c (.row 0 0 0 (l.filter fun m => !p m).length), [(0, ⟨0, 4, true, false, (l.filter fun m => !p m).map encMail ++ List.replicate (l.length - (l.filter fun m => !p m).length) mzero⟩)]) := by
  obtain ⟨h0, k1⟩ := h
  have h1 := slices_IndexFunc_impl_Mail_impl_Mail.gen k1 hf l hl
  refine run_code (b := slices_DeleteFunc_impl_Mail_impl_Mail.m) h0 ⟨l.length + 1, ?_⟩
  have e0 : (l.map encMail).length = l.length := by simp
  cases hq : firstN (pAt p l) l.length with
  | none =>
    have hall : (l.filter fun m => !p m) = l := List.filter_eq_self.2 fun m hm => by
      obtain ⟨j, hj, rfl⟩ := List.getElem_of_mem hm
      have := firstN_none hq j hj
      rw [pAt_at p l j hj] at this
      simp [this]
    rw [hall, Nat.sub_self, List.replicate_zero, List.append_nil]
    rw [hq] at h1
    simp only [mRow, mails, intO, List.append_nil] at h1 ⊢
    generalize l.map encMail = r0 at *
    simp (maxSteps := 1000000) [exB, slices_DeleteFunc_impl_Mail_impl_Mail.m, slices_DeleteFunc_impl_Mail_impl_Mail.b, List.range_succ, bs_get, setAt, h1, e0, List.take_of_length_le]
  | some k =>
    rw [hq] at h1
    obtain ⟨hk1, hk2, hk3⟩ := firstN_some hq
    rw [pAt_at p l k hk1] at hk2
    have ek : keptN p l k = l.take k := by
      refine List.filter_eq_self.2 fun m hm => ?_
      obtain ⟨j, hj, rfl⟩ := List.getElem_of_mem hm
      have hj' : j < k := by simp at hj; omega
      have := hk3 j hj'
      rw [pAt_at p l j (by omega)] at this
      simp [this]
    have ek1 : keptN p l (k + 1) = l.take k := by
      simp only [keptN, take_snoc l k hk1, List.filter_append] at ek ⊢
      rw [ek]; simp [hk2]
    have el : (keptN p l (k + 1)).length = k := by rw [ek1]; simp; omega
    obtain ⟨r, hr, ⟨⟨j, D, n'⟩, rfl, hj, hI⟩⟩ := loop_ex (f := exC (run M) (l.length + 1) slices_DeleteFunc_impl_Mail_impl_Mail.l0) (dlS f cs p l) (DlI p l) (fun s => l.length - s.j)
      (fun r => ∃ s', r = (.exit 0, dlE f cs p l s') ∧ s'.j = l.length ∧ DlI p l s') (fun s hs => dl_turn hf (l.length + 1) l hl s hs) (l.length + 1) ⟨k + 1, l, 2000160⟩
      ⟨by simp only; omega, rfl, by show l.take (keptN p l (k + 1)).length = keptN p l (k + 1); rw [el, ek1], rfl, by simp only [el]; omega⟩ (by simp only; omega)
    obtain ⟨_, hlen, htk, _, hlt⟩ := hI
    simp only at hj hlen htk hlt
    subst hj
    have ef : keptN p l l.length = l.filter fun m => !p m := by simp [keptN]
    rw [ef] at htk hlt
    simp only [dlS, dlE, el, ef] at hr
    have e1 : (D.map encMail).length = l.length := by simpa using hlen
    have e2 : (D.map encMail).take (l.filter fun m => !p m).length = (l.filter fun m => !p m).map encMail := by rw [← List.map_take, htk]
    have e3 : ((l.filter fun m => !p m).map encMail).length = (l.filter fun m => !p m).length := by simp
    have e5 := wrap1 (i := k) (by omega)
    have e6 : ((k + 1 : Nat) : Int) = (k : Int) + 1 := by omega
    have e7 : ¬ (k : Int) = -1 := by omega
    rw [e6] at hr
    simp only [mRow, mails, intO, List.append_nil] at h1 ⊢
    generalize (l.filter fun m => !p m).map encMail = rf at *
    generalize (l.filter fun m => !p m).length = nf at *
    generalize D.map encMail = rd at *
    generalize l.map encMail = r0 at *
    clear hk2 hk3 ek ek1 el hq ef
    generalize l.length = N at *
    have e8 : nf ≤ N := by omega
    have e9 : ¬ N = nf := by omega
    have e10 : ¬ nf = N := by omega
    have e11 : nf + (N - nf) = N := by omega
    have e12 : ¬ N - nf = 0 := by omega
    have e13 : List.drop N rd = [] := List.drop_eq_nil_of_le (by omega)
    simp (maxSteps := 1000000) [exB, slices_DeleteFunc_impl_Mail_impl_Mail.m, slices_DeleteFunc_impl_Mail_impl_Mail.b, List.range_succ, bs_get, setAt, h1, hr, e0, e1, e2, e3, e5, e7, e8, e9, e10, e11, e12, e13, List.take_of_length_le]
end Mx

namespace Mx
open Go
variable {M : Nat → Option Body}
theorem impl_JoinBoxes_3.says (h : impl_JoinBoxes_3.k M) (x y : Box) : run M 481 [.a (encBox x), .a (encBox y)] [] = some (.c (I (cmpI x.gid y.gid)), []) := by
  have h1 := impl_compare.says h.2 x.gid y.gid
  refine run_code (b := impl_JoinBoxes_3.m) h.1 ⟨0, ?_⟩
  simp (maxSteps := 1000000) [exB, impl_JoinBoxes_3.m, impl_JoinBoxes_3.b, List.range_succ, bs_get, setAt, h1, encBox]
structure BsS where
  j : Nat
  D : List Box
  n : Nat
def bsS (f N i : Nat) (Z : List (List T)) (s : BsS) : St := { t := [(0, .c (.row 0 0 0 N)), (1, .c (I 0)), (2, .c (I N)), (3, .c (.fn f [])), (8, .c (I i)), (9, .c (I s.j))], o := [(0, ⟨0, 7, true, false, s.D.map encBox ++ Z⟩)], n := s.n }
def bsE (f N i : Nat) (Z : List (List T)) (s : BsS) : St := { t := [(0, .c (.row 0 0 0 N)), (1, .c (I 0)), (2, .c (I N)), (3, .c (.fn f [])), (8, .c (I i)), (9, .c (I s.j)), (34, .c (.bool false))], o := [(0, ⟨0, 7, true, false, s.D.map encBox ++ Z⟩)], n := s.n }
structure BsI (k : Box → Int) (N : Nat) (R : List Box) (s : BsS) : Prop where
  len : s.D.length = N
  lt : s.j < N
  e : ∃ P x Q, P.length = s.j ∧ s.D = P ++ x :: Q ∧ SortedBy k P ∧ insBy k P x ++ Q = R
set_option maxHeartbeats 2000000 in
theorem bs_swap {f : Nat} {g t w u g' t' w' u' : Int} {nm nm' : List UInt8} {fl fl' tx tx' : List (List T)} {c : Int}
    (hcmp : run M f [.a [I g, S nm, I t, I w, I u, .sl false 4 fl, .sl false 1 tx], .a [I g', S nm', I t', I w', I u', .sl false 4 fl', .sl false 1 tx']] [] = some (.c (I c), [])) (hc : c < 0) (m N i j p : Nat) (hN : N ≤ 1048576) (rr : List (List T)) (e1 : IntKind.i64.wrap ((j : Int) - 1) = (p : Int)) (hj : j < N) (hp : p < N) (h0 : 0 < j) (e2 : j < rr.length) (e3 : p < rr.length) (hne : ¬ j = p) (hne' : ¬ p = j)
    (a1 : ∀ hh, rr[p]'hh = [I g', S nm', I t', I w', I u', .sl false 4 fl', .sl false 1 tx']) (a2 : ∀ hh, rr[j]'hh = [I g, S nm, I t, I w, I u, .sl false 4 fl, .sl false 1 tx]) (n : Nat) :
    ∃ n', exC (run M) m slices_insertionSortCmpFunc_impl_Box.l1 { t := [(0, .c (.row 0 0 0 N)), (1, .c (I 0)), (2, .c (I N)), (3, .c (.fn f [])), (8, .c (I i)), (9, .c (I j))], o := [(0, ⟨0, 7, true, false, rr⟩)], n := n } =
      some (.normal, { t := [(0, .c (.row 0 0 0 N)), (1, .c (I 0)), (2, .c (I N)), (3, .c (.fn f [])), (8, .c (I i)), (9, .c (I p))], o := [(0, ⟨0, 7, true, false, (rr.set j [I g', S nm', I t', I w', I u', .sl false 4 fl', .sl false 1 tx']).set p [I g, S nm, I t, I w, I u, .sl false 4 fl, .sl false 1 tx]⟩)], n := n' }) := by
  simp (maxSteps := 1000000) [slices_insertionSortCmpFunc_impl_Box.l1, List.range_succ, bs_get, setAt, hcmp, hc, a1, a2, e1, e2, e3, hj, hp, h0, hne, hne']
set_option maxHeartbeats 2000000 in
theorem bs_stop {f : Nat} {g t w u g' t' w' u' : Int} {nm nm' : List UInt8} {fl fl' tx tx' : List (List T)} {c : Int}
    (hcmp : run M f [.a [I g, S nm, I t, I w, I u, .sl false 4 fl, .sl false 1 tx], .a [I g', S nm', I t', I w', I u', .sl false 4 fl', .sl false 1 tx']] [] = some (.c (I c), [])) (hc : ¬ c < 0) (m N i j p : Nat) (hN : N ≤ 1048576) (rr : List (List T)) (e1 : IntKind.i64.wrap ((j : Int) - 1) = (p : Int)) (hj : j < N) (hp : p < N) (h0 : 0 < j) (e2 : j < rr.length) (e3 : p < rr.length) (hne : ¬ j = p) (hne' : ¬ p = j)
    (a1 : ∀ hh, rr[p]'hh = [I g', S nm', I t', I w', I u', .sl false 4 fl', .sl false 1 tx']) (a2 : ∀ hh, rr[j]'hh = [I g, S nm, I t, I w, I u, .sl false 4 fl, .sl false 1 tx]) (n : Nat) :
    ∃ n', exC (run M) m slices_insertionSortCmpFunc_impl_Box.l1 { t := [(0, .c (.row 0 0 0 N)), (1, .c (I 0)), (2, .c (I N)), (3, .c (.fn f [])), (8, .c (I i)), (9, .c (I j))], o := [(0, ⟨0, 7, true, false, rr⟩)], n := n } =
      some (.exit 2, { t := [(0, .c (.row 0 0 0 N)), (1, .c (I 0)), (2, .c (I N)), (3, .c (.fn f [])), (8, .c (I i)), (9, .c (I j)), (34, .c (.bool false))], o := [(0, ⟨0, 7, true, false, rr⟩)], n := n' }) := by
  simp (maxSteps := 1000000) [slices_insertionSortCmpFunc_impl_Box.l1, List.range_succ, bs_get, setAt, hcmp, hc, a1, a2, e1, e2, e3, hj, hp, h0, hne, hne']
theorem bs_nil {f : Nat} (m N i : Nat) (rr : List (List T)) (n : Nat) :
    ∃ n', exC (run M) m slices_insertionSortCmpFunc_impl_Box.l1 { t := [(0, .c (.row 0 0 0 N)), (1, .c (I 0)), (2, .c (I N)), (3, .c (.fn f [])), (8, .c (I i)), (9, .c (I 0))], o := [(0, ⟨0, 7, true, false, rr⟩)], n := n } =
      some (.exit 2, { t := [(0, .c (.row 0 0 0 N)), (1, .c (I 0)), (2, .c (I N)), (3, .c (.fn f [])), (8, .c (I i)), (9, .c (I 0)), (34, .c (.bool false))], o := [(0, ⟨0, 7, true, false, rr⟩)], n := n' }) := by
  simp (maxSteps := 1000000) [slices_insertionSortCmpFunc_impl_Box.l1, List.range_succ, bs_get, setAt]
theorem bs_turn {f : Nat} {k : Box → Int} (hf : ∀ x y : Box, run M f [.a (encBox x), .a (encBox y)] [] = some (.c (I (cmpI (k x) (k y))), [])) (m N i : Nat) (hN : N ≤ 1048576) (Z : List (List T)) (R : List Box) (s : BsS) (hs : BsI k N R s) :
    (∃ s', exC (run M) m slices_insertionSortCmpFunc_impl_Box.l1 (bsS f N i Z s) = some (.normal, bsS f N i Z s') ∧ BsI k N R s' ∧ s'.j < s.j) ∨
      (∃ r, exC (run M) m slices_insertionSortCmpFunc_impl_Box.l1 (bsS f N i Z s) = some r ∧ r.1 ≠ .normal ∧ ∃ s', r = (.exit 2, bsE f N i Z s') ∧ s'.D = R) := by
  obtain ⟨j, D, n⟩ := s
  obtain ⟨hl, hj, P, x, Q, hP, hD, hsort, hR⟩ := hs
  simp only at hl hj hP hD
  rcases List.eq_nil_or_concat P with rfl | ⟨P', y, rfl⟩
  · right
    have hj0 : j = 0 := by simpa using hP.symm
    subst hj0
    obtain ⟨n', hh⟩ := bs_nil (M := M) (f := f) m N i (D.map encBox ++ Z) n
    exact ⟨_, hh, by simp, ⟨0, D, n'⟩, rfl, by rw [← hR, hD]; simp [insBy]⟩
  · rw [List.concat_eq_append] at hP hD hsort hR
    have hlen : j = P'.length + 1 := by simpa using hP.symm
    have hDm : D.map encBox = (P' ++ y :: (x :: Q)).map encBox := by rw [hD]; simp
    have hDm2 : D.map encBox = ((P' ++ [y]) ++ x :: Q).map encBox := by rw [hD]
    have a1 : ∀ hh, (D.map encBox ++ Z)[P'.length]'hh = encBox y := by
      intro hh
      rw [List.getElem_append_left (by simp; omega)]
      exact map_at hDm P'.length rfl _
    have a2 : ∀ hh, (D.map encBox ++ Z)[j]'hh = encBox x := by
      intro hh
      rw [List.getElem_append_left (by simp; omega)]
      exact map_at hDm2 j (by simp [hlen]) _
    have hcmp := hf x y
    have e1 : IntKind.i64.wrap ((j : Int) - 1) = (P'.length : Int) := by rw [wrap_i64 (by omega) (by omega)]; omega
    by_cases c : k x < k y
    · left
      obtain ⟨n', hh⟩ := bs_swap hcmp (cmpI_neg.2 c) m N i j P'.length hN (D.map encBox ++ Z) e1 hj (by omega) (by omega) (by simp; omega) (by simp; omega) (by omega) (by omega) a1 a2 n
      refine ⟨⟨P'.length, P' ++ x :: (y :: Q), n'⟩, ?_, ⟨by simp only; rw [hD] at hl; simp at hl ⊢; omega, by simp only; omega, P', x, y :: Q, rfl, rfl, (List.pairwise_append.1 hsort).1, by rw [← hR, insBy_step _ _ _ _ c]⟩, by simp only; omega⟩
      have hs := set_swap encBox P' x y Q
      simp only [bsS]
      rw [← hs, ← hDm, ← hlen]
      rw [List.set_append_left _ _ (by simp; omega), List.set_append_left _ _ (by simp; omega)] at hh
      exact hh
    · right
      obtain ⟨n', hh⟩ := bs_stop hcmp (fun q => c (cmpI_neg.1 q)) m N i j P'.length hN (D.map encBox ++ Z) e1 hj (by omega) (by omega) (by simp; omega) (by simp; omega) (by omega) (by omega) a1 a2 n
      refine ⟨_, hh, by simp, ⟨j, D, n'⟩, rfl, ?_⟩
      simp only
      rw [hD, ← hR, insBy_stop]
      · simp
      · intro z hz
        rcases List.mem_append.1 hz with q | q
        · have := (List.pairwise_append.1 hsort).2.2 z q y (by simp); omega
        · simp at q; subst q; omega
/-- the first i are in order -/
def sortToB (k : Box → Int) (l : List Box) (i : Nat) : List Box := sortBy k (l.take i) ++ l.drop i
theorem sortToB_len (k : Box → Int) (l : List Box) (i : Nat) : (sortToB k l i).length = l.length := by
  simp only [sortToB, List.length_append, sortBy_len, List.length_take, List.length_drop]; omega
structure BtS where
  i : Nat
  n : Nat
def byS (f : Nat) (Z : List (List T)) (k : Box → Int) (l : List Box) (s : BtS) : St := { t := [(0, .c (.row 0 0 0 l.length)), (1, .c (I 0)), (2, .c (I l.length)), (3, .c (.fn f [])), (8, .c (I s.i))], o := [(0, ⟨0, 7, true, false, (sortToB k l s.i).map encBox ++ Z⟩)], n := s.n }
theorem bt_turn {f : Nat} {k : Box → Int} (hf : ∀ x y : Box, run M f [.a (encBox x), .a (encBox y)] [] = some (.c (I (cmpI (k x) (k y))), [])) (m : Nat) (Z : List (List T)) (l : List Box) (hN : l.length ≤ 1048576) (hm : l.length < m) (s : BtS) (hs : 1 ≤ s.i ∧ s.i < l.length) :
    ∃ n', exC (run M) m slices_insertionSortCmpFunc_impl_Box.l0 (byS f Z k l s) = some (.normal, byS f Z k l ⟨s.i + 1, n'⟩) := by
  obtain ⟨i, n⟩ := s
  obtain ⟨h1, h2⟩ := hs
  simp only at h1 h2
  have htk : l.take (i + 1) = l.take i ++ [l[i]] := take_snoc l i h2
  have hdr : l.drop i = l[i] :: l.drop (i + 1) := List.drop_eq_getElem_cons h2
  have hR : insBy k (sortBy k (l.take i)) l[i] ++ l.drop (i + 1) = sortToB k l (i + 1) := by
    simp only [sortToB, htk]
    congr 1
    unfold sortBy
    rw [List.foldl_append]; rfl
  obtain ⟨r, hr, ⟨⟨j, D, n'⟩, rfl, hD⟩⟩ := loop_ex (f := exC (run M) m slices_insertionSortCmpFunc_impl_Box.l1) (bsS f l.length i Z) (BsI k l.length (sortToB k l (i + 1))) (fun s => s.j)
    (fun r => ∃ s', r = (.exit 2, bsE f l.length i Z s') ∧ s'.D = sortToB k l (i + 1)) (fun s hs => bs_turn hf m l.length i hN Z _ s hs) m ⟨i, sortToB k l i, n + 48 + 32⟩
    ⟨sortToB_len k l i, h2, sortBy k (l.take i), l[i], l.drop (i + 1), by rw [sortBy_len]; simp; omega, by simp only [sortToB, hdr], sortBy_sorted _, hR⟩ (by simp only; omega)
  simp only at hD
  subst hD
  simp only [bsS, bsE] at hr
  have e5 := wrap1 (i := i) (by omega)
  simp only [byS]
  generalize (sortToB k l i).map encBox ++ Z = r0 at *
  generalize (sortToB k l (i + 1)).map encBox ++ Z = r1 at *
  simp (maxSteps := 1000000) [slices_insertionSortCmpFunc_impl_Box.l0, List.range_succ, bs_get, setAt, hr, h2, e5]
def bRow (l : List Box) (Z : List (List T)) : Nat × Ob := (0, ⟨0, 7, true, false, l.map encBox ++ Z⟩)
theorem sortToB_all (k : Box → Int) (l : List Box) : sortToB k l l.length = sortBy k l := by simp [sortToB]
theorem sortToB_one (k : Box → Int) (l : List Box) : sortToB k l 1 = l := by
  cases l with
  | nil => rfl
  | cons x l => simp [sortToB, sortBy, insBy]
def byE (f : Nat) (Z : List (List T)) (k : Box → Int) (l : List Box) (s : BtS) : St := { t := [(0, .c (.row 0 0 0 l.length)), (1, .c (I 0)), (2, .c (I l.length)), (3, .c (.fn f [])), (8, .c (I s.i)), (14, .c (.bool false))], o := [(0, ⟨0, 7, true, false, (sortToB k l s.i).map encBox ++ Z⟩)], n := s.n }
theorem bt_end {f : Nat} {k : Box → Int} (m : Nat) (Z : List (List T)) (l : List Box) (i n : Nat) (h : l.length ≤ i) : ∃ n', exC (run M) m slices_insertionSortCmpFunc_impl_Box.l0 (byS f Z k l ⟨i, n⟩) = some (.exit 0, byE f Z k l ⟨i, n'⟩) := by
  have h2 : ¬ i < l.length := by omega
  simp only [byS, byE]
  generalize (sortToB k l i).map encBox ++ Z = r0 at *
  simp (maxSteps := 1000000) [slices_insertionSortCmpFunc_impl_Box.l0, List.range_succ, bs_get, setAt, h2]
theorem slices_insertionSortCmpFunc_impl_Box.says (h : slices_insertionSortCmpFunc_impl_Box.k M) {f : Nat} {k : Box → Int} (hf : ∀ x y : Box, run M f [.a (encBox x), .a (encBox y)] [] = some (.c (I (cmpI (k x) (k y))), []))
    (l : List Box) (Z : List (List T)) (hN : l.length ≤ 1048576) : run M 492 [.c (.row 0 0 0 l.length), .c (I 0), .c (I l.length), .c (.fn f [])] [bRow l Z] = some (.tup [], [bRow (sortBy k l) Z]) := by
  refine run_code (b := slices_insertionSortCmpFunc_impl_Box.m) h ⟨l.length + 1, ?_⟩
  obtain ⟨r, hr, ⟨⟨i, n'⟩, rfl, hi⟩⟩ := loop_ex (f := exC (run M) (l.length + 1) slices_insertionSortCmpFunc_impl_Box.l0) (byS f Z k l) (fun s => 1 ≤ s.i ∧ (s.i ≤ l.length ∨ s.i = 1)) (fun s => l.length - s.i)
    (fun r => ∃ s', r = (.exit 0, byE f Z k l s') ∧ (s'.i = l.length ∨ l.length = 0 ∧ s'.i = 1))
    (fun s hs => by
      obtain ⟨i, n⟩ := s
      by_cases c : i < l.length
      · left
        obtain ⟨n', hh⟩ := bt_turn hf (l.length + 1) Z l hN (by omega) ⟨i, n⟩ ⟨hs.1, c⟩
        exact ⟨_, hh, ⟨by simp only; omega, by simp only; omega⟩, by simp only; omega⟩
      · right
        obtain ⟨n', hh⟩ := bt_end (M := M) (f := f) (k := k) (l.length + 1) Z l i n (by omega)
        simp only at hs
        exact ⟨_, hh, by simp, _, rfl, by simp only; omega⟩) (l.length + 1) ⟨1, 2000048⟩ ⟨by simp, by simp⟩ (by simp only; omega)
  have e1 : sortToB k l i = sortBy k l := by
    rcases hi with hi | ⟨h0, hi⟩
    · simp only at hi; rw [hi, sortToB_all]
    · have : l = [] := List.eq_nil_of_length_eq_zero h0
      subst this; simp [sortToB, sortBy]
  simp only [byS, byE, e1, sortToB_one] at hr
  have e2 : IntKind.i64.wrap 1 = 1 := by decide
  have e3 : ((1 : Nat) : Int) = 1 := rfl
  rw [e3] at hr
  simp only [bRow]
  generalize l.map encBox ++ Z = r0 at *
  generalize (sortBy k l).map encBox ++ Z = r1 at *
  simp (maxSteps := 1000000) [exB, slices_insertionSortCmpFunc_impl_Box.m, slices_insertionSortCmpFunc_impl_Box.b, List.range_succ, bs_get, setAt, hr, e2]
/-- from the end on there is nothing to be done -/
theorem slices_insertionSortCmpFunc_impl_Box.rest (h : slices_insertionSortCmpFunc_impl_Box.k M) {f : Nat} (l : List Box) (Z : List (List T)) (hN : l.length ≤ 1048576) :
    run M 492 [.c (.row 0 0 0 l.length), .c (I l.length), .c (I l.length), .c (.fn f [])] [bRow l Z] = some (.tup [], [bRow l Z]) := by
  refine run_code (b := slices_insertionSortCmpFunc_impl_Box.m) h ⟨1, ?_⟩
  have e2 : IntKind.i64.wrap ((l.length : Int) + 1) = (l.length : Int) + 1 := wrap_i64 (by omega) (by omega)
  have e3 : ¬ (l.length : Int) + 1 < l.length := by omega
  simp only [bRow]
  have e4 : l.length ≤ (l.map encBox ++ Z).length := by simp
  generalize l.map encBox ++ Z = r0 at *
  simp (maxSteps := 1000000) [exB, slices_insertionSortCmpFunc_impl_Box.m, slices_insertionSortCmpFunc_impl_Box.b, List.range_succ, bs_get, setAt, loopN, slices_insertionSortCmpFunc_impl_Box.l0, e2, e3]
theorem slices_stableCmpFunc_impl_Box.says (h : slices_stableCmpFunc_impl_Box.k M) {f : Nat} {k : Box → Int} (hf : ∀ x y : Box, run M f [.a (encBox x), .a (encBox y)] [] = some (.c (I (cmpI (k x) (k y))), []))
    (l : List Box) (Z : List (List T)) (hN : l.length ≤ 20) : run M 490 [.c (.row 0 0 0 l.length), .c (I l.length), .c (.fn f [])] [bRow l Z] = some (.tup [], [bRow (sortBy k l) Z]) := by
  obtain ⟨h0, k1⟩ := h
  have h1 := slices_insertionSortCmpFunc_impl_Box.says k1 hf l Z (by omega)
  have h2 := slices_insertionSortCmpFunc_impl_Box.rest k1 (f := f) (sortBy k l) Z (by rw [sortBy_len]; omega)
  rw [sortBy_len] at h2
  refine run_code (b := slices_stableCmpFunc_impl_Box.m) h0 ⟨2, ?_⟩
  have e1 : l.length ≤ (l.map encBox ++ Z).length := by simp
  have e2 : l.length ≤ ((sortBy k l).map encBox ++ Z).length := by simp [sortBy_len]
  simp only [bRow] at h1 h2 ⊢
  generalize l.map encBox ++ Z = r0 at *
  generalize (sortBy k l).map encBox ++ Z = r1 at *
  by_cases c : l.length = 20
  · generalize l.length = N at *
    subst c
    simp only [Int.cast_ofNat_Int] at h1 h2
    have w1 : IntKind.i64.wrap 40 = 40 := by decide
    simp (maxSteps := 1000000) [exB, slices_stableCmpFunc_impl_Box.m, slices_stableCmpFunc_impl_Box.b, List.range_succ, bs_get, setAt, h1, h2, w1, loopN, slices_stableCmpFunc_impl_Box.l0, slices_stableCmpFunc_impl_Box.l1, e1, e2]
  · have c1 : ¬ (20 : Int) ≤ l.length := by omega
    have c2 : ¬ (20 : Int) < l.length := by omega
    have c3 : ¬ 20 ≤ l.length := by omega
    have c4 : ¬ 20 < l.length := by omega
    simp (maxSteps := 1000000) [exB, slices_stableCmpFunc_impl_Box.m, slices_stableCmpFunc_impl_Box.b, List.range_succ, bs_get, setAt, h1, h2, c1, c2, c3, c4, loopN, slices_stableCmpFunc_impl_Box.l0, slices_stableCmpFunc_impl_Box.l1, e1, e2]
theorem slices_SortStableFunc_impl_Box_impl_Box.says (h : slices_SortStableFunc_impl_Box_impl_Box.k M) {f : Nat} {k : Box → Int} (hf : ∀ x y : Box, run M f [.a (encBox x), .a (encBox y)] [] = some (.c (I (cmpI (k x) (k y))), []))
    (l : List Box) (Z : List (List T)) (hN : l.length ≤ 20) : run M 480 [.c (.row 0 0 0 l.length), .c (.fn f [])] [bRow l Z] = some (.tup [], [bRow (sortBy k l) Z]) := by
  have h1 := slices_stableCmpFunc_impl_Box.says h.2 hf l Z hN
  refine run_code (b := slices_SortStableFunc_impl_Box_impl_Box.m) h.1 ⟨0, ?_⟩
  have e1 : l.length ≤ (l.map encBox ++ Z).length := by simp
  simp only [bRow] at h1 ⊢
  generalize l.map encBox ++ Z = r0 at *
  generalize (sortBy k l).map encBox ++ Z = r1 at *
  simp (maxSteps := 1000000) [exB, slices_SortStableFunc_impl_Box_impl_Box.m, slices_SortStableFunc_impl_Box_impl_Box.b, List.range_succ, bs_get, setAt, h1, e1]
end Mx

namespace Mx
open Go
variable {M : Nat → Option Body}
def bigS (f : Nat) (cs : List T) (l : List Box) (i : Nat) (x : Nat) : St := { t := [(0, .c (boxes l)), (1, .c (.fn f [.vp cs 0])), (7, .c (I l.length)), (8, .c (I i))], o := [], n := x }
theorem slices_IndexFunc_impl_Box_impl_Box.gen (h : slices_IndexFunc_impl_Box_impl_Box.k M) {f : Nat} {cs : List T} {p : Box → Bool} (hf : ∀ m, run M f [.a (encBox m), .c (.vp cs 0)] [] = some (.c (.bool (p m)), [])) (l : List Box) (hl : l.length ≤ 1048576) :
    run M 200 [.c (boxes l), .c (.fn f [.vp cs 0])] [] = some (.c (I (intO (firstN (pAt p l) l.length))), []) := by
  refine run_code (b := slices_IndexFunc_impl_Box_impl_Box.m) h ⟨l.length + 1, ?_⟩
  obtain ⟨g', hr⟩ := first_loop (f := exC (run M) (l.length + 1) slices_IndexFunc_impl_Box_impl_Box.l0) l.length (pAt p l) (bigS f cs l) atFin atFin_ne
    (fun i hi x c => by
      have hm := hf l[i]
      rw [pAt_at p l i hi] at c
      rw [c] at hm
      have e5 := wrap1 (i := i) (by omega)
      simp [bigS, slices_IndexFunc_impl_Box_impl_Box.l0, hi, hm, encBox, e5])
    (fun i hi x c => by
      have hm := hf l[i]
      rw [pAt_at p l i hi] at c
      rw [c] at hm
      simp [bigS, slices_IndexFunc_impl_Box_impl_Box.l0, hi, hm, encBox, atFin]
      exact ⟨⟨[], [], _⟩, rfl⟩)
    (fun x => by simp [bigS, slices_IndexFunc_impl_Box_impl_Box.l0, atFin])
  cases hm : firstN (pAt p l) l.length with
  | none =>
    simp [bigS, hm, atFin] at hr
    simp [exB, slices_IndexFunc_impl_Box_impl_Box.m, slices_IndexFunc_impl_Box_impl_Box.b, List.range_succ, hr, intO]
  | some k =>
    simp [bigS, hm, atFin] at hr
    simp [exB, slices_IndexFunc_impl_Box_impl_Box.m, slices_IndexFunc_impl_Box_impl_Box.b, List.range_succ, hr, intO]
theorem bd_keep {f : Nat} {cs : List T} {g t w u : Int} {nm : List UInt8} {fl tx : List (List T)} (hf : run M f [.a [I g, S nm, I t, I w, I u, .sl false 4 fl, .sl false 1 tx], .c (.vp cs 0)] [] = some (.c (.bool false), [])) (m N i j : Nat) (hN : N ≤ 1048576) (rr : List (List T)) (hj : j < N) (hi : i < N) (e2 : rr.length = N)
    (a1 : ∀ hh, rr[j]'hh = [I g, S nm, I t, I w, I u, .sl false 4 fl, .sl false 1 tx]) (n : Nat) (ri : List T) (a2 : rr[i]? = some ri) (a3 : ri.length = 7) :
    ∃ n', exC (run M) m slices_DeleteFunc_impl_Box_impl_Box.l0 { t := [(0, .c (.row 0 0 0 N)), (1, .c (.fn f [.vp cs 0])), (5, .c (I i)), (6, .c (I j))], o := [(0, ⟨0, 7, true, false, rr⟩)], n := n } =
      some (.normal, { t := [(0, .c (.row 0 0 0 N)), (1, .c (.fn f [.vp cs 0])), (5, .c (I (i + 1 : Nat))), (6, .c (I (j + 1 : Nat)))], o := [(0, ⟨0, 7, true, false, rr.set i [I g, S nm, I t, I w, I u, .sl false 4 fl, .sl false 1 tx]⟩)], n := n' }) := by
  have e5 := wrap1 (i := i) (by omega)
  have e6 := wrap1 (i := j) (by omega)
  match ri, a3 with
  | [r0, r1, r2, r3, r4, r5, r6], _ =>
    have a4 : ∀ hh, rr[i]'hh = [r0, r1, r2, r3, r4, r5, r6] := by
      intro hh; rw [List.getElem?_eq_getElem hh] at a2; exact Option.some.inj a2
    clear a2
    simp (maxSteps := 1000000) [slices_DeleteFunc_impl_Box_impl_Box.l0, List.range_succ, bs_get, setAt, hf, hj, hi, e2, a1, a4, e5, e6]
theorem bd_drop {f : Nat} {cs : List T} {g t w u : Int} {nm : List UInt8} {fl tx : List (List T)} (hf : run M f [.a [I g, S nm, I t, I w, I u, .sl false 4 fl, .sl false 1 tx], .c (.vp cs 0)] [] = some (.c (.bool true), [])) (m N i j : Nat) (hN : N ≤ 1048576) (rr : List (List T)) (hj : j < N) (e2 : rr.length = N)
    (a1 : ∀ hh, rr[j]'hh = [I g, S nm, I t, I w, I u, .sl false 4 fl, .sl false 1 tx]) (n : Nat) :
    ∃ n', exC (run M) m slices_DeleteFunc_impl_Box_impl_Box.l0 { t := [(0, .c (.row 0 0 0 N)), (1, .c (.fn f [.vp cs 0])), (5, .c (I i)), (6, .c (I j))], o := [(0, ⟨0, 7, true, false, rr⟩)], n := n } =
      some (.normal, { t := [(0, .c (.row 0 0 0 N)), (1, .c (.fn f [.vp cs 0])), (5, .c (I i)), (6, .c (I (j + 1 : Nat)))], o := [(0, ⟨0, 7, true, false, rr⟩)], n := n' }) := by
  have e6 := wrap1 (i := j) (by omega)
  simp (maxSteps := 1000000) [slices_DeleteFunc_impl_Box_impl_Box.l0, List.range_succ, bs_get, setAt, hf, hj, e2, a1, e6]
theorem bd_end {f : Nat} {cs : List T} (m N i j : Nat) (rr : List (List T)) (hj : ¬ j < N) (n : Nat) :
    ∃ n', exC (run M) m slices_DeleteFunc_impl_Box_impl_Box.l0 { t := [(0, .c (.row 0 0 0 N)), (1, .c (.fn f [.vp cs 0])), (5, .c (I i)), (6, .c (I j))], o := [(0, ⟨0, 7, true, false, rr⟩)], n := n } =
      some (.exit 0, { t := [(0, .c (.row 0 0 0 N)), (1, .c (.fn f [.vp cs 0])), (5, .c (I i)), (6, .c (I j)), (19, .c (.bool false))], o := [(0, ⟨0, 7, true, false, rr⟩)], n := n' }) := by
  simp (maxSteps := 1000000) [slices_DeleteFunc_impl_Box_impl_Box.l0, List.range_succ, bs_get, setAt, hj]
structure BdS where
  j : Nat
  D : List Box
  n : Nat
def keptB (p : Box → Bool) (l : List Box) (j : Nat) : List Box := (l.take j).filter fun m => !p m
def bdS (f : Nat) (cs : List T) (p : Box → Bool) (l : List Box) (s : BdS) : St := { t := [(0, .c (.row 0 0 0 l.length)), (1, .c (.fn f [.vp cs 0])), (5, .c (I (keptB p l s.j).length)), (6, .c (I s.j))], o := [(0, ⟨0, 7, true, false, s.D.map encBox⟩)], n := s.n }
def bdE (f : Nat) (cs : List T) (p : Box → Bool) (l : List Box) (s : BdS) : St := { t := [(0, .c (.row 0 0 0 l.length)), (1, .c (.fn f [.vp cs 0])), (5, .c (I (keptB p l s.j).length)), (6, .c (I s.j)), (19, .c (.bool false))], o := [(0, ⟨0, 7, true, false, s.D.map encBox⟩)], n := s.n }
structure BdI (p : Box → Bool) (l : List Box) (s : BdS) : Prop where
  j : s.j ≤ l.length
  len : s.D.length = l.length
  tk : s.D.take (keptB p l s.j).length = keptB p l s.j
  dr : s.D.drop s.j = l.drop s.j
  lt : (keptB p l s.j).length < s.j
theorem bd_turn {f : Nat} {cs : List T} {p : Box → Bool} (hf : ∀ m, run M f [.a (encBox m), .c (.vp cs 0)] [] = some (.c (.bool (p m)), [])) (k : Nat) (l : List Box) (hN : l.length ≤ 1048576) (s : BdS) (hs : BdI p l s) :
    (∃ s', exC (run M) k slices_DeleteFunc_impl_Box_impl_Box.l0 (bdS f cs p l s) = some (.normal, bdS f cs p l s') ∧ BdI p l s' ∧ l.length - s'.j < l.length - s.j) ∨
      (∃ r, exC (run M) k slices_DeleteFunc_impl_Box_impl_Box.l0 (bdS f cs p l s) = some r ∧ r.1 ≠ .normal ∧ ∃ s', r = (.exit 0, bdE f cs p l s') ∧ s'.j = l.length ∧ BdI p l s') := by
  obtain ⟨j, D, n⟩ := s
  obtain ⟨h1, h2, h3, h4, h5⟩ := hs
  simp only at h1 h2 h3 h4 h5
  by_cases c : j < l.length
  · left
    have hD : D[j]'(by omega) = l[j] := by
      have q1 := List.drop_eq_getElem_cons (l := D) (i := j) (by omega)
      have q2 := List.drop_eq_getElem_cons (l := l) (i := j) c
      rw [h4, q2] at q1
      exact (List.cons.inj q1).1.symm
    have hdr : D.drop (j + 1) = l.drop (j + 1) := by
      have q1 := List.drop_eq_getElem_cons (l := D) (i := j) (by omega)
      have q2 := List.drop_eq_getElem_cons (l := l) (i := j) c
      rw [h4, q2] at q1
      exact (List.cons.inj q1).2.symm
    have a1 : ∀ hh, (D.map encBox)[j]'hh = encBox l[j] := by intro hh; simp [hD]
    have e2 : (D.map encBox).length = l.length := by simpa using h2
    have hm := hf l[j]
    have ek : keptB p l (j + 1) = keptB p l j ++ if p l[j] = true then [] else [l[j]] := by
      simp only [keptB, take_snoc l j c, List.filter_append]
      cases q : p l[j] <;> simp [q]
    cases q : p l[j] with
    | true =>
      rw [q] at hm
      obtain ⟨n', hh⟩ := bd_drop hm k l.length (keptB p l j).length j hN (D.map encBox) c e2 a1 n
      rw [q] at ek
      simp only [if_true, List.append_nil] at ek
      refine ⟨⟨j + 1, D, n'⟩, ?_, ⟨by simp only; omega, h2, by simp only [ek]; exact h3, hdr, by simp only [ek]; omega⟩, by simp only; omega⟩
      simp only [bdS, ek]
      exact hh
    | false =>
      rw [q] at hm
      have hi : (keptB p l j).length < l.length := by omega
      obtain ⟨n', hh⟩ := bd_keep hm k l.length (keptB p l j).length j hN (D.map encBox) c hi e2 a1 n (encBox (D[(keptB p l j).length]'(by omega))) (by rw [List.getElem?_map, List.getElem?_eq_getElem (by omega)]; rfl) rfl
      rw [q] at ek
      simp only [Bool.false_eq_true, if_false] at ek
      have el : (keptB p l (j + 1)).length = (keptB p l j).length + 1 := by rw [ek]; simp
      refine ⟨⟨j + 1, D.set (keptB p l j).length l[j], n'⟩, ?_, ⟨by simp only; omega, by simpa using h2, ?_, ?_, by simp only [el]; omega⟩, by simp only; omega⟩
      · simp only [bdS, el, List.map_set]
        exact hh
      · show (D.set (keptB p l j).length l[j]).take (keptB p l (j + 1)).length = keptB p l (j + 1)
        rw [el, ek, take_snoc _ _ (by simp; omega), List.take_set_of_le (Nat.le_refl _), h3]
        simp
      · simp only
        rw [List.drop_set_of_lt (by omega)]
        exact hdr
  · right
    have hj : j = l.length := by omega
    obtain ⟨n', hh⟩ := bd_end (M := M) (f := f) (cs := cs) k l.length (keptB p l j).length j (D.map encBox) c n
    exact ⟨_, hh, by simp, ⟨j, D, n'⟩, rfl, hj, ⟨h1, h2, h3, h4, h5⟩⟩
theorem slices_DeleteFunc_impl_Box_impl_Box.says (h : slices_DeleteFunc_impl_Box_impl_Box.k M) {f : Nat} {cs : List T} {p : Box → Bool} (hf : ∀ m, run M f [.a (encBox m), .c (.vp cs 0)] [] = some (.c (.bool (p m)), [])) (l : List Box) (hl : l.length ≤ 1048576) :
    run M 478 [.c (.row 0 0 0 l.length), .c (.fn f [.vp cs 0])] [bRow l []] =
      some (.c (.row 0 0 0 (l.filter fun m => !p m).length), [(0, ⟨0, 7, true, false, (l.filter fun m => !p m).map encBox ++ List.replicate (l.length - (l.filter fun m => !p m).length) bzero⟩)]) := by
  obtain ⟨h0, k1⟩ := h
  have h1 := slices_IndexFunc_impl_Box_impl_Box.gen k1 hf l hl
  refine run_code (b := slices_DeleteFunc_impl_Box_impl_Box.m) h0 ⟨l.length + 1, ?_⟩
  have e0 : (l.map encBox).length = l.length := by simp
  cases hq : firstN (pAt p l) l.length with
  | none =>
    have hall : (l.filter fun m => !p m) = l := List.filter_eq_self.2 fun m hm => by
      obtain ⟨j, hj, rfl⟩ := List.getElem_of_mem hm
      have := firstN_none hq j hj
      rw [pAt_at p l j hj] at this
      simp [this]
    rw [hall, Nat.sub_self, List.replicate_zero, List.append_nil]
    rw [hq] at h1
    simp only [bRow, boxes, intO, List.append_nil] at h1 ⊢
    generalize l.map encBox = r0 at *
    simp (maxSteps := 1000000) [exB, slices_DeleteFunc_impl_Box_impl_Box.m, slices_DeleteFunc_impl_Box_impl_Box.b, List.range_succ, bs_get, setAt, h1, e0, List.take_of_length_le]
  | some k =>
    rw [hq] at h1
    obtain ⟨hk1, hk2, hk3⟩ := firstN_some hq
    rw [pAt_at p l k hk1] at hk2
    have ek : keptB p l k = l.take k := by
      refine List.filter_eq_self.2 fun m hm => ?_
      obtain ⟨j, hj, rfl⟩ := List.getElem_of_mem hm
      have hj' : j < k := by simp at hj; omega
      have := hk3 j hj'
      rw [pAt_at p l j (by omega)] at this
      simp [this]
    have ek1 : keptB p l (k + 1) = l.take k := by
      simp only [keptB, take_snoc l k hk1, List.filter_append] at ek ⊢
      rw [ek]; simp [hk2]
    have el : (keptB p l (k + 1)).length = k := by rw [ek1]; simp; omega
    obtain ⟨r, hr, ⟨⟨j, D, n'⟩, rfl, hj, hI⟩⟩ := loop_ex (f := exC (run M) (l.length + 1) slices_DeleteFunc_impl_Box_impl_Box.l0) (bdS f cs p l) (BdI p l) (fun s => l.length - s.j)
      (fun r => ∃ s', r = (.exit 0, bdE f cs p l s') ∧ s'.j = l.length ∧ BdI p l s') (fun s hs => bd_turn hf (l.length + 1) l hl s hs) (l.length + 1) ⟨k + 1, l, 2000160⟩
      ⟨by simp only; omega, rfl, by show l.take (keptB p l (k + 1)).length = keptB p l (k + 1); rw [el, ek1], rfl, by simp only [el]; omega⟩ (by simp only; omega)
    obtain ⟨_, hlen, htk, _, hlt⟩ := hI
    simp only at hj hlen htk hlt
    subst hj
    have ef : keptB p l l.length = l.filter fun m => !p m := by simp [keptB]
    rw [ef] at htk hlt
    simp only [bdS, bdE, el, ef] at hr
    have e1 : (D.map encBox).length = l.length := by simpa using hlen
    have e2 : (D.map encBox).take (l.filter fun m => !p m).length = (l.filter fun m => !p m).map encBox := by rw [← List.map_take, htk]
    have e3 : ((l.filter fun m => !p m).map encBox).length = (l.filter fun m => !p m).length := by simp
    have e5 := wrap1 (i := k) (by omega)
    have e6 : ((k + 1 : Nat) : Int) = (k : Int) + 1 := by omega
    have e7 : ¬ (k : Int) = -1 := by omega
    rw [e6] at hr
    simp only [bRow, boxes, intO, List.append_nil] at h1 ⊢
    generalize (l.filter fun m => !p m).map encBox = rf at *
    generalize (l.filter fun m => !p m).length = nf at *
    generalize D.map encBox = rd at *
    generalize l.map encBox = r0 at *
    clear hk2 hk3 ek ek1 el hq ef
    generalize l.length = N at *
    have e8 : nf ≤ N := by omega
    have e9 : ¬ N = nf := by omega
    have e10 : ¬ nf = N := by omega
    have e11 : nf + (N - nf) = N := by omega
    have e12 : ¬ N - nf = 0 := by omega
    have e13 : List.drop N rd = [] := List.drop_eq_nil_of_le (by omega)
    simp (maxSteps := 1000000) [exB, slices_DeleteFunc_impl_Box_impl_Box.m, slices_DeleteFunc_impl_Box_impl_Box.b, List.range_succ, bs_get, setAt, h1, hr, e0, e1, e2, e3, e5, e7, e8, e9, e10, e11, e12, e13, List.take_of_length_le]
end Mx

namespace Mx
open Go
variable {M : Nat → Option Body}
def fig (d : Nat) : UInt8 := UInt8.ofNat (48 + d)
def digs (m : Nat) (acc : List UInt8) : List UInt8 := if m = 0 then acc else digs (m / 10) (fig (m % 10) :: acc)
termination_by m
decreasing_by omega
theorem digs_zero (acc : List UInt8) : digs 0 acc = acc := by rw [digs]; simp
theorem digs_step {m : Nat} (h : m ≠ 0) (acc : List UInt8) : digs m acc = digs (m / 10) (fig (m % 10) :: acc) := by rw [digs, if_neg h]
def dec (n : Int) : List UInt8 := if n = 0 then [48] else (if n < 0 then [45] else []) ++ digs n.natAbs []
theorem digs_len : ∀ (k m : Nat) (acc : List UInt8), m < 10 ^ k → (digs m acc).length ≤ acc.length + k := by
  intro k
  induction k with
  | zero => intro m acc h; have : m = 0 := by simpa using h
            subst this; rw [digs_zero]; omega
  | succ k ih =>
    intro m acc h
    by_cases h0 : m = 0
    · subst h0; rw [digs_zero]; omega
    · rw [digs_step h0]
      have := ih (m / 10) (fig (m % 10) :: acc) (by rw [Nat.pow_succ] at h; omega)
      simp at this; omega
theorem dec_len {n : Int} (h : -9223372036854775808 ≤ n) (h' : n ≤ 9223372036854775807) : (dec n).length ≤ 21 := by
  unfold dec
  have := digs_len 20 n.natAbs [] (by omega)
  simp at this
  split
  · simp
  · split <;> simp <;> omega
theorem spec_l01Figure.says (h : spec_l01Figure.k M) (d : Nat) (hd : d < 10) : run M 247 [.c (I d)] [] = some (.c (U8 (fig d).toNat), []) := by
  refine run_code (b := spec_l01Figure.m) h ⟨0, ?_⟩
  have e0 : (d : Int) < 10 := by omega
  have e1 : IntKind.i64.wrap (48 + (d : Int)) = 48 + (d : Int) := wrap_i64 (by omega) (by omega)
  have e2 : IntKind.u8.wrap (48 + (d : Int)) = ((fig d).toNat : Int) := by
    unfold IntKind.wrap; simp [IntKind.bits, IntKind.signed, fig] <;> omega
  simp [exB, spec_l01Figure.m, spec_l01Figure.b, List.range_succ, e0, e1, e2]
def spDec (b : Bool) (s : Int × List UInt8) (x : Nat) : St := { t := [(0, .c (I s.1)), (3, .c (.bool b)), (4, .c (S s.2))], o := [], n := x }
def decInv (s : Int × List UInt8) : Prop := -9223372036854775808 ≤ s.1 ∧ s.1 ≤ 9223372036854775807 ∧ ∃ k, s.1.natAbs < 10 ^ k ∧ s.2.length + k ≤ 20
theorem decInv_step {n : Int} {acc : List UInt8} (h : decInv (n, acc)) (h0 : n ≠ 0) (b : UInt8) : decInv (n.tdiv 10, b :: acc) := by
  obtain ⟨h1, h2, k, h3, h4⟩ := h
  simp only at h1 h2 h3 h4
  have e : (n.tdiv 10).natAbs = n.natAbs / 10 := by rw [Int.natAbs_tdiv]; rfl
  cases k with
  | zero => simp at h3; omega
  | succ k => exact ⟨by simp only; omega, by simp only; omega, k, by simp only; rw [e]; rw [Nat.pow_succ] at h3; omega, by simp; omega⟩
theorem tmod_ten (n : Int) : n.tmod 10 = (n.natAbs % 10 : Nat) ∨ (n.tmod 10 < 0 ∧ n.tmod 10 = - (n.natAbs % 10 : Nat)) := by
  have e : (n.tmod 10).natAbs = n.natAbs % 10 := by rw [Int.natAbs_tmod]; rfl
  omega
theorem spec_Decimal.round (h : spec_Decimal.k M) (k : Nat) (b : Bool) (s : Int × List UInt8) (x : Nat) (hi : decInv s) (h0 : s.1 ≠ 0) :
    ∃ y, exC (run M) k spec_Decimal.l0 (spDec b s x) = some (.normal, spDec b (s.1.tdiv 10, fig (s.1.natAbs % 10) :: s.2) y) := by
  obtain ⟨n, acc⟩ := s
  obtain ⟨h1, h2, k', h3, h4⟩ := hi
  simp only at h0 h1 h2 h3 h4
  have hf := spec_l01Figure.says h.2 (n.natAbs % 10) (by omega)
  have ed : (n.tdiv 10).natAbs = n.natAbs / 10 := by rw [Int.natAbs_tdiv]; rfl
  have e1 : IntKind.i64.wrap (n.tdiv 10) = n.tdiv 10 := wrap_i64 (by omega) (by omega)
  have e2 : acc.length + 1 ≤ 4611686018427387904 := by omega
  have e3 : 1 + acc.length ≤ 4611686018427387904 := by omega
  rcases tmod_ten n with ht | ⟨ht0, ht⟩
  · have e0 : ¬ (((n.natAbs % 10 : Nat) : Int) < 0) := by omega
    generalize n.natAbs % 10 = d at *
    simp only [spDec, spec_Decimal.l0]
    simp (disch := (first | omega | (simp; done) | (simp; omega))) [h0, ht, hf, e1, e0, str_add, rowsBytes]
  · have e0 : n.tmod 10 < 0 := ht0
    have e4 : IntKind.i64.wrap (0 - n.tmod 10) = ((n.natAbs % 10 : Nat) : Int) := by rw [wrap_i64 (by omega) (by omega)]; omega
    generalize n.natAbs % 10 = d at *
    simp only [spDec, spec_Decimal.l0]
    simp only [Int.zero_sub] at e4
    simp (disch := (first | omega | (simp; done) | (simp; omega))) [h0, e0, e4, hf, e1, str_add, rowsBytes]
theorem spec_Decimal.says (h : spec_Decimal.k M) (n : Int) (hn : -9223372036854775808 ≤ n) (hn' : n ≤ 9223372036854775807) : run M 197 [.c (I n)] [] = some (.c (S (dec n)), []) := by
  refine run_code (b := spec_Decimal.m) h.1 ⟨n.natAbs + 1, ?_⟩
  by_cases h0 : n = 0
  · simp [exB, spec_Decimal.m, spec_Decimal.b, List.range_succ, h0, dec]
  obtain ⟨g, hr⟩ := loop_all (f := exC (run M) (n.natAbs + 1) spec_Decimal.l0) (spDec (decide (n < 0))) decInv (fun s => s.1.natAbs) (fun s => digs s.1.natAbs s.2)
    (fun q m => (.exit 0, { t := [(0, .c (I 0)), (3, .c (.bool (decide (n < 0)))), (4, .c (S q)), (11, .c (.bool false))], o := [], n := m }))
    (by
      intro s x hi
      by_cases hs : s.1 = 0
      · right
        exact ⟨x + 32, by simp [spDec, spec_Decimal.l0, hs, digs_zero], by simp⟩
      · left
        obtain ⟨y, hy⟩ := spec_Decimal.round h (n.natAbs + 1) (decide (n < 0)) s x hi hs
        have e : (s.1.tdiv 10).natAbs = s.1.natAbs / 10 := by rw [Int.natAbs_tdiv]; rfl
        refine ⟨_, y, hy, decInv_step hi hs _, by simp only; omega, ?_⟩
        simp only [e]
        exact (digs_step (by omega) _).symm)
    (n.natAbs + 1) (n, []) ⟨hn, hn', 20, by simp only; omega, by simp⟩ (by simp only; omega)
  have hl := digs_len 20 n.natAbs [] (by omega)
  simp [spDec] at hr hl
  by_cases hneg : n < 0
  · simp [hneg] at hr
    simp (disch := (first | omega | (simp; done) | (simp; omega))) [exB, spec_Decimal.m, spec_Decimal.b, List.range_succ, h0, dec, hneg, hr, str_add]
  · simp [hneg] at hr
    simp (disch := (first | omega | (simp; done) | (simp; omega))) [exB, spec_Decimal.m, spec_Decimal.b, List.range_succ, h0, dec, hneg, hr, str_add]
def imDec (n : Int) (s : Int × List UInt8) (x : Nat) : St := { t := [(0, .c (I n)), (3, .c (S s.2)), (4, .c (I s.1))], o := [], n := x }
theorem fig_of : ∀ d : Nat, d < 10 → ∃ h : d < 16, ([48, 49, 50, 51, 52, 53, 54, 55, 56, 57, 97, 98, 99, 100, 101, 102] : List UInt8)[d] = fig d := by decide
theorem impl_Decimal.round (k : Nat) (n0 : Int) (s : Int × List UInt8) (x : Nat) (hi : decInv s) (h0 : s.1 ≠ 0) :
    ∃ y, exC (run M) k impl_Decimal.l0 (imDec n0 s x) = some (.normal, imDec n0 (s.1.tdiv 10, fig (s.1.natAbs % 10) :: s.2) y) := by
  obtain ⟨n, acc⟩ := s
  obtain ⟨h1, h2, k', h3, h4⟩ := hi
  simp only at h0 h1 h2 h3 h4
  have ed : (n.tdiv 10).natAbs = n.natAbs / 10 := by rw [Int.natAbs_tdiv]; rfl
  have e1 : IntKind.i64.wrap (n.tdiv 10) = n.tdiv 10 := wrap_i64 (by omega) (by omega)
  have e2 : acc.length + 1 ≤ 4611686018427387904 := by omega
  have e3 : 1 + acc.length ≤ 4611686018427387904 := by omega
  have hd : n.natAbs % 10 < 10 := by omega
  have e5 : IntKind.i64.wrap (((n.natAbs % 10 : Nat) : Int) + 1) = ((n.natAbs % 10 + 1 : Nat) : Int) := wrap_i64 (by omega) (by omega)
  have e4 : IntKind.i64.wrap (-(n.tmod 10)) = -(n.tmod 10) := wrap_i64 (by have := tmod_ten n; omega) (by have := tmod_ten n; omega)
  have e6 : (if n.tmod 10 < -(n.tmod 10) then -(n.tmod 10) else n.tmod 10) = ((n.natAbs % 10 : Nat) : Int) := by
    rcases tmod_ten n with ht | ⟨ht0, ht⟩ <;> split <;> omega
  generalize n.natAbs % 10 = d at *
  obtain ⟨hd16, hfig⟩ := fig_of d hd
  have e7 := take_drop1 ([48, 49, 50, 51, 52, 53, 54, 55, 56, 57, 97, 98, 99, 100, 101, 102] : List UInt8) d hd16
  rw [hfig] at e7
  simp only [List.take_succ_cons] at e7
  have e8 : d + 1 ≤ 16 := by omega
  have e9 : (0 : Int) ≤ (d : Int) + 1 := by omega
  have e10 : ((d : Int) + 1).toNat = d + 1 := by omega
  simp only [imDec, impl_Decimal.l0]
  simp (disch := (first | omega | (simp; done) | (simp; omega))) [h0, e4, e5, e6, e7, e8, e9, e10, e1, str_add]
theorem impl_Decimal.says (h : impl_Decimal.k M) (n : Int) (hn : -9223372036854775808 ≤ n) (hn' : n ≤ 9223372036854775807) : run M 128 [.c (I n)] [] = some (.c (S (dec n)), []) := by
  refine run_code (b := impl_Decimal.m) h ⟨n.natAbs + 1, ?_⟩
  by_cases h0 : n = 0
  · simp [exB, impl_Decimal.m, impl_Decimal.b, List.range_succ, h0, dec]
  obtain ⟨g, hr⟩ := loop_all (f := exC (run M) (n.natAbs + 1) impl_Decimal.l0) (imDec n) decInv (fun s => s.1.natAbs) (fun s => digs s.1.natAbs s.2)
    (fun q m => (.exit 0, { t := [(0, .c (I n)), (3, .c (S q)), (4, .c (I 0)), (10, .c (.bool false))], o := [], n := m }))
    (by
      intro s x hi
      by_cases hs : s.1 = 0
      · right
        exact ⟨x + 32, by simp [imDec, impl_Decimal.l0, hs, digs_zero], by simp⟩
      · left
        obtain ⟨y, hy⟩ := impl_Decimal.round (n.natAbs + 1) n s x hi hs
        have e : (s.1.tdiv 10).natAbs = s.1.natAbs / 10 := by rw [Int.natAbs_tdiv]; rfl
        refine ⟨_, y, hy, decInv_step hi hs _, by simp only; omega, ?_⟩
        simp only [e]
        exact (digs_step (by omega) _).symm)
    (n.natAbs + 1) (n, []) ⟨hn, hn', 20, by simp only; omega, by simp⟩ (by simp only; omega)
  have hl := digs_len 20 n.natAbs [] (by omega)
  simp [imDec] at hr hl
  by_cases hneg : n < 0
  · simp (disch := (first | omega | (simp; done) | (simp; omega))) [exB, impl_Decimal.m, impl_Decimal.b, List.range_succ, h0, dec, hneg, hr, str_add]
  · simp (disch := (first | omega | (simp; done) | (simp; omega))) [exB, impl_Decimal.m, impl_Decimal.b, List.range_succ, h0, dec, hneg, hr, str_add]
end Mx

namespace Mx
open Go
variable {M : Nat → Option Body}
def otherName (s : List UInt8) (g : Int) : List UInt8 := s.take 6 ++ [120] ++ if 0 < g then (dec g).drop ((dec g).length - 5) else []
theorem impl_OtherName.says (h : impl_OtherName.k M) (s : List UInt8) (g : Int) (hs : s.length ≤ 1048576) (hg : g ≤ 9223372036854775807) : run M 484 [.c (S s), .c (I g)] [] = some (.c (S (otherName s g)), []) := by
  obtain ⟨h0, k1⟩ := h
  refine run_code (b := impl_OtherName.m) h0 ⟨0, ?_⟩
  unfold otherName
  have e0 : ∀ x y : Int, x ≤ y → (if y < x then y else x) = x := fun x y h => by rw [if_neg (by omega)]
  have a1 : strBin .add (bs s) ⟨#[120]⟩ = some (S (s ++ [120])) := str_add s [120] (by simp; omega)
  have a2 : strBin .add (bs (s.take 6)) ⟨#[120]⟩ = some (S (s.take 6 ++ [120])) := str_add (s.take 6) [120] (by simp; omega)
  by_cases c : 0 < g
  · have h1 := impl_Decimal.says k1 g (by omega) hg
    have hl := dec_len (n := g) (by omega) hg
    rw [if_pos c]
    generalize dec g = d at *
    have a3 : ∀ k, strBin .add (bs (s ++ [120])) (bs (d.drop k)) = some (S (s ++ [120] ++ d.drop k)) := fun k => str_add (s ++ [120]) (d.drop k) (by simp; omega)
    have a4 : ∀ k, strBin .add (bs (s.take 6 ++ [120])) (bs (d.drop k)) = some (S (s.take 6 ++ [120] ++ d.drop k)) := fun k => str_add (s.take 6 ++ [120]) (d.drop k) (by simp; omega)
    have a5 := a3 0
    have a6 := a4 0
    rw [List.drop_zero] at a5 a6
    have ed : d.take d.length = d := List.take_length
    have e1 : IntKind.i64.wrap ((d.length : Int) - 5) = (d.length : Int) - 5 := wrap_i64 (by omega) (by omega)
    by_cases c1 : s.length < 6
    · have c1' : (s.length : Int) < 6 := by omega
      have t1 : s.take 6 = s := List.take_of_length_le (by omega)
      by_cases c2 : d.length ≤ 5
      · have c2' : ¬ (5 : Int) < (d.length : Int) := by omega
        have e2 : d.length - 5 = 0 := by omega
        simp (maxSteps := 1000000) [exB, impl_OtherName.m, impl_OtherName.b, List.range_succ, bs_get, setAt, h1, c, c1, c1', c2', t1, e1, e2, max2, min2, a1, a2, a3, a4, a5, a6, ed]
      · have c2' : (5 : Int) < (d.length : Int) := by omega
        have e3 : (0 : Int) ≤ (d.length : Int) - 5 := by omega
        have e4 : d.length - 5 ≤ d.length := by omega
        have e7 : (5 : Int) ≤ (d.length : Int) := by omega
        have e2 : ((d.length : Int) - 5).toNat = d.length - 5 := by omega
        simp (maxSteps := 1000000) [exB, impl_OtherName.m, impl_OtherName.b, List.range_succ, bs_get, setAt, h1, c, c1, c1', c2', t1, e1, e2, e3, e4, e7, max2, min2, a1, a2, a3, a4, a5, a6, ed]
    · have c1' : ¬ (s.length : Int) < 6 := by omega
      have c6 : 6 ≤ s.length := by omega
      by_cases c2 : d.length ≤ 5
      · have c2' : ¬ (5 : Int) < (d.length : Int) := by omega
        have e2 : d.length - 5 = 0 := by omega
        simp (maxSteps := 1000000) [exB, impl_OtherName.m, impl_OtherName.b, List.range_succ, bs_get, setAt, h1, c, c1, c1', c6, c2', e1, e2, max2, min2, a1, a2, a3, a4, a5, a6, ed]
      · have c2' : (5 : Int) < (d.length : Int) := by omega
        have e3 : (0 : Int) ≤ (d.length : Int) - 5 := by omega
        have e4 : d.length - 5 ≤ d.length := by omega
        have e7 : (5 : Int) ≤ (d.length : Int) := by omega
        have e2 : ((d.length : Int) - 5).toNat = d.length - 5 := by omega
        simp (maxSteps := 1000000) [exB, impl_OtherName.m, impl_OtherName.b, List.range_succ, bs_get, setAt, h1, c, c1, c1', c6, c2', e1, e2, e3, e4, e7, max2, min2, a1, a2, a3, a4, a5, a6, ed]
  · rw [if_neg c]
    by_cases c1 : s.length < 6
    · have c1' : (s.length : Int) < 6 := by omega
      have t1 : s.take 6 = s := List.take_of_length_le (by omega)
      simp (maxSteps := 1000000) [exB, impl_OtherName.m, impl_OtherName.b, List.range_succ, bs_get, setAt, c, c1, c1', t1, min2, a1, a2]
    · have c1' : ¬ (s.length : Int) < 6 := by omega
      have c6 : 6 ≤ s.length := by omega
      simp (maxSteps := 1000000) [exB, impl_OtherName.m, impl_OtherName.b, List.range_succ, bs_get, setAt, c, c1, c1', min2, a1, a2, c6]
theorem spec_OtherName.says (h : spec_OtherName.k M) (s : List UInt8) (g : Int) (hs : s.length ≤ 1048576) (hg : g ≤ 9223372036854775807) : run M 475 [.c (S s), .c (I g)] [] = some (.c (S (otherName s g)), []) := by
  obtain ⟨h0, k1⟩ := h
  refine run_code (b := spec_OtherName.m) h0 ⟨0, ?_⟩
  unfold otherName
  obtain ⟨t, ht, hl6, hcase⟩ : ∃ t, t = s.take 6 ∧ t.length ≤ 6 ∧ ((6 < s.length) ∨ (¬ 6 < s.length ∧ t = s)) := ⟨s.take 6, rfl, by simp; omega, by
    by_cases c : 6 < s.length
    · exact .inl c
    · exact .inr ⟨c, List.take_of_length_le (by omega)⟩⟩
  rw [← ht]
  have a1 : strBin .add (bs t) ⟨#[120]⟩ = some (S (t ++ [120])) := str_add t [120] (by simp; omega)
  have a0 : strBin .add (bs (t ++ [120])) ⟨#[]⟩ = some (S (t ++ [120])) := by
    have := str_add (t ++ [120]) [] (by simp; omega)
    rw [List.append_nil] at this; exact this
  by_cases c : 0 < g
  · have h1 := spec_Decimal.says k1 g (by omega) hg
    have hl := dec_len (n := g) (by omega) hg
    rw [if_pos c]
    generalize dec g = d at *
    have e1 : IntKind.i64.wrap ((d.length : Int) - 5) = (d.length : Int) - 5 := wrap_i64 (by omega) (by omega)
    have a3 : ∀ k, strBin .add (bs (t ++ [120])) (bs (d.drop k)) = some (S (t ++ [120] ++ d.drop k)) := fun k => str_add (t ++ [120]) (d.drop k) (by simp; omega)
    have a5 := a3 0
    rw [List.drop_zero] at a5
    have ed : d.take d.length = d := List.take_length
    rcases hcase with q | ⟨q, q2⟩
    · have q1 : 6 ≤ s.length := by omega
      have q3 : (6 : Int) < (s.length : Int) := by omega
      by_cases c2 : d.length ≤ 5
      · have c2' : ¬ (5 : Int) < (d.length : Int) := by omega
        have c3 : ¬ 5 < d.length := by omega
        have e2 : d.length - 5 = 0 := by omega
        simp (maxSteps := 1000000) [exB, spec_OtherName.m, spec_OtherName.b, List.range_succ, bs_get, setAt, h1, c, q, q1, q3, ← ht, c2', c3, e1, e2, a1, a3, a5, ed]
      · have c2' : (5 : Int) < (d.length : Int) := by omega
        have c3 : 5 < d.length := by omega
        have e2 : ((d.length : Int) - 5).toNat = d.length - 5 := by omega
        have e4 : d.length - 5 ≤ d.length := by omega
        have e7 : (5 : Int) ≤ (d.length : Int) := by omega
        simp (maxSteps := 1000000) [exB, spec_OtherName.m, spec_OtherName.b, List.range_succ, bs_get, setAt, h1, c, q, q1, q3, ← ht, c2', c3, e1, e2, e4, e7, a1, a3, a5, ed]
    · subst q2
      have q3 : ¬ (6 : Int) < (t.length : Int) := by omega
      by_cases c2 : d.length ≤ 5
      · have c2' : ¬ (5 : Int) < (d.length : Int) := by omega
        have c3 : ¬ 5 < d.length := by omega
        have e2 : d.length - 5 = 0 := by omega
        simp (maxSteps := 1000000) [exB, spec_OtherName.m, spec_OtherName.b, List.range_succ, bs_get, setAt, h1, c, q, q3, c2', c3, e1, e2, a1, a3, a5, ed]
      · have c2' : (5 : Int) < (d.length : Int) := by omega
        have c3 : 5 < d.length := by omega
        have e2 : ((d.length : Int) - 5).toNat = d.length - 5 := by omega
        have e4 : d.length - 5 ≤ d.length := by omega
        have e7 : (5 : Int) ≤ (d.length : Int) := by omega
        simp (maxSteps := 1000000) [exB, spec_OtherName.m, spec_OtherName.b, List.range_succ, bs_get, setAt, h1, c, q, q3, c2', c3, e1, e2, e4, e7, a1, a3, a5, ed]
  · rw [if_neg c]
    rcases hcase with q | ⟨q, q2⟩
    · have q1 : 6 ≤ s.length := by omega
      have q3 : (6 : Int) < (s.length : Int) := by omega
      simp (maxSteps := 1000000) [exB, spec_OtherName.m, spec_OtherName.b, List.range_succ, bs_get, setAt, c, q, q1, q3, ← ht, a1, a0]
    · subst q2
      have q3 : ¬ (6 : Int) < (t.length : Int) := by omega
      simp (maxSteps := 1000000) [exB, spec_OtherName.m, spec_OtherName.b, List.range_succ, bs_get, setAt, c, q, q3, a1, a0]
def boxO (l : List Box) (g : Int) : Option Nat := firstN (pAt (fun b : Box => decide (b.gid = g)) l) l.length
def boxIn (l : List Box) (g : Int) : Option Box := l.find? fun b => decide (b.gid = g)
theorem boxO_some {l : List Box} {g : Int} {k : Nat} (h : boxO l g = some k) : ∃ hk : k < l.length, boxIn l g = some l[k] := by
  obtain ⟨h1, h2, h3⟩ := firstN_some h
  refine ⟨h1, ?_⟩
  unfold boxIn
  rw [List.find?_eq_some_iff_getElem]
  rw [pAt_at _ _ _ h1] at h2
  refine ⟨h2, k, h1, rfl, fun j hj => ?_⟩
  have := h3 j hj
  rw [pAt_at _ _ _ (by omega)] at this
  simp only [this, Bool.not_false]
theorem boxO_none {l : List Box} {g : Int} (h : boxO l g = none) : boxIn l g = none := by
  unfold boxIn
  rw [List.find?_eq_none]
  intro b hb
  obtain ⟨j, hj, rfl⟩ := List.getElem_of_mem hb
  have := firstN_none h j hj
  rw [pAt_at _ _ _ hj] at this
  simp only [this]; decide
theorem impl_JoinBoxes_1_1.says (h : impl_JoinBoxes_1_1.k M) (b : Box) (g : Int) : run M 477 [.a (encBox b), .c (.vp [I g] 0)] [] = some (.c (.bool (decide (b.gid = g))), []) := by
  refine run_code (b := impl_JoinBoxes_1_1.m) h ⟨0, ?_⟩
  simp (maxSteps := 1000000) [exB, impl_JoinBoxes_1_1.m, impl_JoinBoxes_1_1.b, List.range_succ, bs_get, setAt, encBox]
theorem impl_JoinBoxes_1.says (h : impl_JoinBoxes_1.k M) (l : List Box) (g : Int) (hl : l.length ≤ 1048576) : run M 476 [.c (boxes l), .c (I g)] [] = some (.c (I (intO (boxO l g))), []) := by
  have h1 := slices_IndexFunc_impl_Box_impl_Box.gen h.2.1 (fun b => impl_JoinBoxes_1_1.says h.2.2 b g) l hl
  refine run_code (b := impl_JoinBoxes_1.m) h.1 ⟨0, ?_⟩
  unfold boxO
  simp only [boxes] at h1 ⊢
  generalize l.map encBox = r at *
  simp (maxSteps := 1000000) [exB, impl_JoinBoxes_1.m, impl_JoinBoxes_1.b, List.range_succ, bs_get, setAt, h1]
theorem impl_JoinBoxes_2.says (h : impl_JoinBoxes_2.k M) (b : Box) (G : List Int) (hG : G.length ≤ 4194304) : run M 479 [.a (encBox b), .c (.vp [ints G] 0)] [] = some (.c (.bool (decide (b.gid ∈ G))), []) := by
  have h1 := slices_Contains_int_int.says h.2 G b.gid (by omega)
  refine run_code (b := impl_JoinBoxes_2.m) h.1 ⟨0, ?_⟩
  simp only [ints] at h1 ⊢
  generalize irow G = g at *
  simp (maxSteps := 1000000) [exB, impl_JoinBoxes_2.m, impl_JoinBoxes_2.b, List.range_succ, bs_get, setAt, h1, encBox]
theorem impl_JoinBoxes_4.says (h : impl_JoinBoxes_4.k M) (y x : Box) : run M 483 [.a (encBox y), .c (.vp (encBox x) 0)] [] = some (.c (.bool (decide (y.name = x.name))), []) := by
  refine run_code (b := impl_JoinBoxes_4.m) h ⟨0, ?_⟩
  simp (maxSteps := 1000000) [exB, impl_JoinBoxes_4.m, impl_JoinBoxes_4.b, List.range_succ, bs_get, setAt, encBox]
theorem slices_ContainsFunc_impl_Box_impl_Box.says (h : slices_ContainsFunc_impl_Box_impl_Box.k M) {f : Nat} {cs : List T} {p : Box → Bool} (hf : ∀ m, run M f [.a (encBox m), .c (.vp cs 0)] [] = some (.c (.bool (p m)), [])) (l : List Box) (hl : l.length ≤ 1048576) :
    run M 482 [.c (boxes l), .c (.fn f [.vp cs 0])] [] = some (.c (.bool (l.any p)), []) := by
  have h1 := slices_IndexFunc_impl_Box_impl_Box.gen h.2 hf l hl
  have e : (decide ((0 : Int) ≤ intO (firstN (pAt p l) l.length))) = l.any p := by
    cases q : firstN (pAt p l) l.length with
    | none =>
      have hn := firstN_none q
      have : l.any p = false := by
        rw [List.any_eq_false]
        intro b hb
        obtain ⟨j, hj, rfl⟩ := List.getElem_of_mem hb
        have := hn j hj
        rw [pAt_at _ _ _ hj] at this
        simp [this]
      rw [this]; decide
    | some k =>
      obtain ⟨h1, h2, _⟩ := firstN_some q
      rw [pAt_at _ _ _ h1] at h2
      have : l.any p = true := List.any_eq_true.2 ⟨_, List.getElem_mem h1, h2⟩
      rw [this]; exact decide_eq_true (Int.natCast_nonneg k)
  refine run_code (b := slices_ContainsFunc_impl_Box_impl_Box.m) h.1 ⟨0, ?_⟩
  rw [← e]
  simp only [boxes] at h1 ⊢
  generalize l.map encBox = r at *
  simp (maxSteps := 1000000) [exB, slices_ContainsFunc_impl_Box_impl_Box.m, slices_ContainsFunc_impl_Box_impl_Box.b, List.range_succ, bs_get, setAt, h1]
def naS (l : List Box) (g : Int) (i : Nat) (x : Nat) : St := { t := [(0, .c (boxes l)), (1, .c (I g)), (5, .c (I i))], o := [], n := x }
theorem spec_l09At.says (h : spec_l09At.k M) (l : List Box) (g : Int) (hl : l.length ≤ 1048576) : run M 474 [.c (boxes l), .c (I g)] [] = some (.c (I (intO (boxO l g))), []) := by
  refine run_code (b := spec_l09At.m) h ⟨l.length + 1, ?_⟩
  obtain ⟨g', hr⟩ := first_loop (f := exC (run M) (l.length + 1) spec_l09At.l0) l.length (pAt (fun b : Box => decide (b.gid = g)) l) (naS l g) atFin atFin_ne
    (fun i hi x c => by
      rw [pAt_at _ _ _ hi] at c
      simp only [decide_eq_false_iff_not] at c
      have e5 := wrap1 (i := i) (by omega)
      simp [naS, spec_l09At.l0, hi, c, encBox, e5])
    (fun i hi x c => by
      rw [pAt_at _ _ _ hi] at c
      simp only [decide_eq_true_eq] at c
      simp [naS, spec_l09At.l0, hi, c, encBox, atFin]
      exact ⟨⟨[], [], _⟩, rfl⟩)
    (fun x => by simp [naS, spec_l09At.l0, atFin])
  unfold boxO
  cases hm : firstN (pAt (fun b : Box => decide (b.gid = g)) l) l.length with
  | none =>
    simp [naS, hm, atFin] at hr
    simp [exB, spec_l09At.m, spec_l09At.b, List.range_succ, hr, intO]
  | some k =>
    simp [naS, hm, atFin] at hr
    simp [exB, spec_l09At.m, spec_l09At.b, List.range_succ, hr, intO]
end Mx

namespace Mx
open Go
variable {M : Nat → Option Body}
abbrev curD (R : List (List T)) (i : Nat) (h : Int) : Nat × Ob := (0, ⟨0, 3, true, true, [[.sl false 1 R, I i, I h]]⟩)
def Bytes (R : List (List T)) : Prop := R.length ≤ 1048576 ∧ ∀ (i : Nat) (r : List T), R[i]? = some r → ∃ n : Int, r = [.int .u8 n]
theorem and_255 (x : Int) : ∃ n : Nat, n < 256 ∧ andI .i64 x 255 = (n : Int) := by
  rw [andI_eq]
  refine ⟨(x % ((2 ^ IntKind.i64.bits : Nat) : Int)).toNat &&& 255, ?_, ?_⟩
  · have : (x % ((2 ^ IntKind.i64.bits : Nat) : Int)).toNat &&& 255 ≤ 255 := Nat.and_le_right
    omega
  · have h : (x % ((2 ^ IntKind.i64.bits : Nat) : Int)).toNat &&& 255 ≤ 255 := Nat.and_le_right
    have e : ((255 : Int) % ((2 ^ IntKind.i64.bits : Nat) : Int)).toNat = 255 := by decide
    rw [e]
    exact wrap_i64 (by omega) (by omega)
theorem spec_l01Byte.says (h : spec_l01Byte.k M) {R : List (List T)} (hR : Bytes R) (i : Nat) (q : Int) (hi : i ≤ R.length) :
    ∃ (x i' : Nat) (q' : Int), x < 256 ∧ i' ≤ R.length ∧ run M 131 [.c (.ptr 0 0 0 0)] [curD R i q] = some (.c (I x), [curD R i' q']) := by
  obtain ⟨hl, hb⟩ := hR
  obtain ⟨q1, hq1⟩ : ∃ q1, IntKind.i64.wrap (IntKind.i64.wrap (q * 6364136223846793005) + 1442695040888963407) = q1 := ⟨_, rfl⟩
  obtain ⟨x, hx, e1⟩ := and_255 (xorI .i64 (q1.fdiv ((2 : Int) ^ min 33 IntKind.i64.bits)) (q1.fdiv ((2 : Int) ^ min 45 IntKind.i64.bits)))
  by_cases hlt : i < R.length
  · obtain ⟨n, hn⟩ := hb i R[i] (List.getElem?_eq_getElem hlt)
    obtain ⟨y, hy, e2⟩ := and_255 (IntKind.i64.wrap (x + IntKind.i64.wrap n))
    refine ⟨y, i + 1, q1, hy, by omega, ?_⟩
    refine run_code (b := spec_l01Byte.m) h ⟨0, ?_⟩
    have e3 := wrap1 (i := i) (by omega)
    simp (maxSteps := 1000000) [exB, spec_l01Byte.m, spec_l01Byte.b, List.range_succ, bs_get, setAt, hq1, e1, e2, e3, hlt, hn]
  · refine ⟨x, i, q1, hx, hi, ?_⟩
    refine run_code (b := spec_l01Byte.m) h ⟨0, ?_⟩
    simp (maxSteps := 1000000) [exB, spec_l01Byte.m, spec_l01Byte.b, List.range_succ, bs_get, setAt, hq1, e1, hlt]
theorem tmod_small (x n : Nat) (hn : 0 < n) : ∃ y : Nat, y < n ∧ ((x : Int).tmod (n : Int)) = (y : Int) := ⟨x % n, Nat.mod_lt _ hn, by rw [Int.tmod_eq_emod_of_nonneg (by omega)]; rfl⟩
/-- a number below n (at most 256, or a drawn one of four bytes) -/
theorem spec_l01Below.says (h : spec_l01Below.k M) {R : List (List T)} (hR : Bytes R) (i : Nat) (q : Int) (hi : i ≤ R.length) (n : Nat) (hn : 0 < n) (hn2 : n ≤ 1000000000) :
    ∃ (x i' : Nat) (q' : Int), x < n ∧ i' ≤ R.length ∧ run M 125 [.c (.ptr 0 0 0 0), .c (I n)] [curD R i q] = some (.c (I x), [curD R i' q']) := by
  obtain ⟨h0, k1⟩ := h
  have n0 : ¬ (n : Int) ≤ 0 := by omega
  have n1 : ¬ n = 0 := by omega
  obtain ⟨x1, i1, q1, hx1, hi1, h1⟩ := spec_l01Byte.says k1 hR i q hi
  by_cases hs : n ≤ 256
  · have hs2 : (n : Int) ≤ 256 := by omega
    obtain ⟨y, hy, e⟩ := tmod_small x1 n hn
    refine ⟨y, i1, q1, hy, hi1, ?_⟩
    refine run_code (b := spec_l01Below.m) h0 ⟨0, ?_⟩
    simp (maxSteps := 1000000) [exB, spec_l01Below.m, spec_l01Below.b, List.range_succ, bs_get, setAt, h1, n0, n1, hs, hs2, e]
  · have hs2 : ¬ (n : Int) ≤ 256 := by omega
    obtain ⟨x2, i2, q2, hx2, hi2, h2⟩ := spec_l01Byte.says k1 hR i1 q1 hi1
    obtain ⟨x3, i3, q3, hx3, hi3, h3⟩ := spec_l01Byte.says k1 hR i2 q2 hi2
    obtain ⟨x4, i4, q4, hx4, hi4, h4⟩ := spec_l01Byte.says k1 hR i3 q3 hi3
    have w1 : IntKind.i64.wrap ((x1 : Int) * 16777216) = ((x1 * 16777216 : Nat) : Int) := wrap_i64 (by omega) (by omega)
    have w2 : IntKind.i64.wrap ((x2 : Int) * 65536) = ((x2 * 65536 : Nat) : Int) := wrap_i64 (by omega) (by omega)
    have w3 : IntKind.i64.wrap ((x3 : Int) * 256) = ((x3 * 256 : Nat) : Int) := wrap_i64 (by omega) (by omega)
    obtain ⟨y1, hy1⟩ : ∃ y1, x1 * 16777216 = y1 := ⟨_, rfl⟩
    obtain ⟨y2, hy2⟩ : ∃ y2, x2 * 65536 = y2 := ⟨_, rfl⟩
    obtain ⟨y3, hy3⟩ : ∃ y3, x3 * 256 = y3 := ⟨_, rfl⟩
    rw [hy1] at w1; rw [hy2] at w2; rw [hy3] at w3
    have w4 : IntKind.i64.wrap ((y1 : Int) + y2) = ((y1 + y2 : Nat) : Int) := wrap_i64 (by omega) (by omega)
    obtain ⟨z1, hz1⟩ : ∃ z1, y1 + y2 = z1 := ⟨_, rfl⟩
    rw [hz1] at w4
    have w5 : IntKind.i64.wrap ((z1 : Int) + y3) = ((z1 + y3 : Nat) : Int) := wrap_i64 (by omega) (by omega)
    obtain ⟨z2, hz2⟩ : ∃ z2, z1 + y3 = z2 := ⟨_, rfl⟩
    rw [hz2] at w5
    have w6 : IntKind.i64.wrap ((z2 : Int) + x4) = ((z2 + x4 : Nat) : Int) := wrap_i64 (by omega) (by omega)
    obtain ⟨z3, hz3⟩ : ∃ z3, z2 + x4 = z3 := ⟨_, rfl⟩
    rw [hz3] at w6
    obtain ⟨y, hy, e⟩ := tmod_small z3 n hn
    refine ⟨y, i4, q4, hy, hi4, ?_⟩
    refine run_code (b := spec_l01Below.m) h0 ⟨0, ?_⟩
    simp (maxSteps := 1000000) [exB, spec_l01Below.m, spec_l01Below.b, List.range_succ, bs_get, setAt, h1, h2, h3, h4, w1, w2, w3, w4, w5, w6, n0, n1, hs, hs2, e]
theorem spec_l01Pick.says (h : spec_l01Pick.k M) {R : List (List T)} (hR : Bytes R) (i : Nat) (q : Int) (hi : i ≤ R.length) (ss : List (List UInt8)) (h0 : 0 < ss.length) (hn : ss.length ≤ 256) :
    ∃ (s : List UInt8) (i' : Nat) (q' : Int), s ∈ ss ∧ i' ≤ R.length ∧ run M 185 [.c (.ptr 0 0 0 0), .c (.sl false 1 (ss.map fun s => [S s]))] [curD R i q] = some (.c (S s), [curD R i' q']) := by
  obtain ⟨hm, k1⟩ := h
  obtain ⟨x, i1, q1, hx, hi1, h1⟩ := spec_l01Below.says k1 hR i q hi ss.length h0 (by omega)
  refine ⟨ss[x], i1, q1, List.getElem_mem hx, hi1, ?_⟩
  refine run_code (b := spec_l01Pick.m) hm ⟨0, ?_⟩
  simp (maxSteps := 1000000) [exB, spec_l01Pick.m, spec_l01Pick.b, List.range_succ, bs_get, setAt, h1, hx]
def texts5 : List (List UInt8) := [[104, 101, 108, 108, 111], [104, 105, 10], [], [116, 101, 120, 116, 32, 111, 102, 32, 105, 116], [0, 255], [97, 32, 98]]
theorem spec_l05Text.says (h : spec_l05Text.k M) {R : List (List T)} (hR : Bytes R) (i : Nat) (q : Int) (hi : i ≤ R.length) :
    ∃ (s : List UInt8) (i' : Nat) (q' : Int), s.length ≤ 60 ∧ i' ≤ R.length ∧ run M 174 [.c (.ptr 0 0 0 0)] [curD R i q] = some (.c (S s), [curD R i' q']) := by
  obtain ⟨hm, k1⟩ := h
  obtain ⟨s, i1, q1, hs, hi1, h1⟩ := spec_l01Pick.says k1 hR i q hi texts5 (by decide) (by decide)
  refine ⟨s, i1, q1, ?_, hi1, ?_⟩
  · have : ∀ s ∈ texts5, s.length ≤ 60 := by decide
    exact this s hs
  · refine run_code (b := spec_l05Text.m) hm ⟨0, ?_⟩
    simp only [texts5, List.map_cons, List.map_nil, bs] at h1 ⊢
    simp (maxSteps := 1000000) [exB, spec_l05Text.m, spec_l05Text.b, List.range_succ, bs_get, setAt, h1]
end Mx

namespace Mx
open Go
variable {M : Nat → Option Body}
def byteAt (R : List (List T)) (i : Nat) : Int := match R[i]? with
  | some [.int _ n] => IntKind.i64.wrap n
  | _ => 0
def hAt (R : List (List T)) : Nat → Int
  | 0 => 77201 + R.length
  | i + 1 => andI .i64 (IntKind.i64.wrap (IntKind.i64.wrap (IntKind.i64.wrap (hAt R i * 131) + byteAt R i) + 7)) 1073741823
def lnN (R : List (List T)) : Nat := min R.length 4000
def lnS (R : List (List T)) (i : Nat) (x : Nat) : St := { t := [(0, .c (.sl false 1 R)), (3, .c (I (hAt R i))), (4, .c (I i))], o := [], n := x }
def lnE (R : List (List T)) (x : Nat) : St := { t := [(0, .c (.sl false 1 R)), (3, .c (I (hAt R (lnN R)))), (4, .c (I (lnN R))), (15, .c (.bool false))], o := [], n := x }
theorem spec_l01New.says (h : spec_l01New.k M) {R : List (List T)} (hR : Bytes R) :
    ∃ q : Int, run M 124 [.c (.sl false 1 R)] [] = some (.c (.vp [.sl false 1 R, I 0, I q] 0), []) := by
  refine ⟨hAt R (lnN R), run_code (b := spec_l01New.m) h ⟨lnN R + 1, ?_⟩⟩
  have hl := hR.1
  obtain ⟨g, hr⟩ := count_loop (f := exC (run M) (lnN R + 1) spec_l01New.l0) (lnN R) (lnS R) 0 (lnE R)
    (fun i hi x => by
      have h1 : i < R.length := by unfold lnN at hi; omega
      have h2 : i < 4000 := by unfold lnN at hi; omega
      have h3 : (i : Int) < 4000 := by omega
      obtain ⟨n, hn⟩ := hR.2 i R[i] (List.getElem?_eq_getElem h1)
      have hb : byteAt R i = IntKind.i64.wrap n := by simp [byteAt, h1, hn]
      have e3 := wrap1 (i := i) (by omega)
      simp only [lnS, hAt, hb]
      generalize hAt R i = q
      simp (maxSteps := 1000000) [spec_l01New.l0, List.range_succ, bs_get, setAt, h1, h2, h3, hn, e3])
    (fun x => by
      simp only [lnS, lnE]
      generalize hAt R (lnN R) = q
      by_cases c : R.length < 4000
      · have e : lnN R = R.length := by unfold lnN; omega
        rw [e]
        simp (maxSteps := 1000000) [spec_l01New.l0, List.range_succ, bs_get, setAt]
      · have e : lnN R = 4000 := by unfold lnN; omega
        rw [e]
        simp only [Int.cast_ofNat_Int]
        by_cases c2 : 4000 < R.length
        · have c3 : (4000 : Int) < (R.length : Int) := by omega
          simp (maxSteps := 1000000) [spec_l01New.l0, List.range_succ, bs_get, setAt, c2, c3]
        · have c3 : ¬ (4000 : Int) < (R.length : Int) := by omega
          simp (maxSteps := 1000000) [spec_l01New.l0, List.range_succ, bs_get, setAt, c2, c3])
  simp only [lnS, lnE, hAt] at hr
  generalize hAt R (lnN R) = q at *
  simp at hr
  have e : IntKind.i64.wrap (77201 + (R.length : Int)) = 77201 + (R.length : Int) := wrap_i64 (by omega) (by omega)
  simp (maxSteps := 1000000) [exB, spec_l01New.m, spec_l01New.b, List.range_succ, bs_get, setAt, hr, e]
end Mx

namespace Mx
open Go
variable {M : Nat → Option Body}
structure PlS where
  i : Nat
  rows : List (List T)
  v : Nat
  vc : Nat
  ic : Nat
  q : Int
  n : Nat
theorem PlS.ex {p : PlS → Prop} : (∃ s, p s) ↔ ∃ i rows v vc ic q n, p ⟨i, rows, v, vc, ic, q, n⟩ := ⟨fun ⟨⟨i, rows, v, vc, ic, q, n⟩, h⟩ => ⟨i, rows, v, vc, ic, q, n, h⟩, fun ⟨i, rows, v, vc, ic, q, n, h⟩ => ⟨⟨i, rows, v, vc, ic, q, n⟩, h⟩⟩
end Mx

namespace Mx
open Go
variable {M : Nat → Option Body}
def shS (l : List Reg) (n t w : Int) (i : Nat) (x : Nat × Nat × Nat) : St := { t := [(1, .c (I n)), (5, .c (.ptr 5 x.1 0 0)), (7, .c (.row 11100 x.2.1 0 l.length)), (8, .c (I i))], o := [(5, ⟨x.1, 2, true, true, [[I t, I w]]⟩), (11100, ⟨x.2.1, 3, true, false, (setTo l n t w i).map encReg⟩)], n := x.2.2 }
def shE (l : List Reg) (n t w : Int) (x : Nat × Nat × Nat) : St := { t := [(1, .c (I n)), (5, .c (.ptr 5 x.1 0 0)), (7, .c (.row 11100 x.2.1 0 l.length)), (8, .c (I l.length)), (24, .c (.bool false))], o := [(5, ⟨x.1, 2, true, true, [[I t, I w]]⟩), (11100, ⟨x.2.1, 3, true, false, (setTo l n t w l.length).map encReg⟩)], n := x.2.2 }
theorem spec_SetFlags.turn (k : spec_PutReg.k M) (l : List Reg) (n t w : Int) (K i : Nat) (hn : 0 ≤ n) (hl : l.length = 3) (hi : i < l.length) (x : Nat × Nat × Nat) :
    ∃ y, exC (run M) K spec_SetFlags.l0 (shS l n t w i x) = some (.normal, shS l n t w (i + 1) y) := by
  obtain ⟨v, u, x⟩ := x
  have e5 := wrap1 (i := i) (by omega)
  have h1 := spec_PutReg.says k l[i] (bitOf n i) t w
  have hlen : ((setTo l n t w i).map encReg).length = l.length := by simp [setTo_len]
  have hi2 : i < ((setTo l n t w i).map encReg).length := by omega
  have hat : ((setTo l n t w i).map encReg)[i]'hi2 = encReg l[i] := by rw [List.getElem_map, setTo_at]
  have hset : (setTo l n t w (i + 1)).map encReg = ((setTo l n t w i).map encReg).set i (encReg (setFlag n t w i l[i])) := by rw [setTo_succ _ _ _ _ _ hi, List.map_set]
  have hmin : Min.min i 64 = i := by omega
  have hu : IntKind.u64.wrap (i : Int) = i := by unfold IntKind.wrap; simp [IntKind.bits, IntKind.signed]; omega
  have hdiv : 0 ≤ n.fdiv ((2 ^ i : Nat) : Int) := Int.fdiv_nonneg hn (Int.natCast_nonneg _)
  have hbit : (n.fdiv ((2 ^ i : Nat) : Int)).tmod 2 = bitOf n i := by
    unfold bitOf; exact Int.tmod_eq_emod_of_nonneg hdiv
  have hbit2 : (n.fdiv (2 ^ i)).tmod 2 = bitOf n i := by rw [← hbit]; norm_cast
  have hii : (i : Int) < 3 := by omega
  have h3 : i < 3 := by omega
  have hng : ¬ (i : Int) < 0 := by omega
  simp only [shS, hset, setFlag, Prod.exists]
  generalize (setTo l n t w i).map encReg = rr at *
  simp only [encReg] at h1 hat
  by_cases c : l[i].val = bitOf n i
  · rw [if_pos c]
    have hself : rr.set i [I l[i].val, I l[i].time, I l[i].who] = rr := by
      apply List.ext_getElem?
      intro j
      rw [List.getElem?_set]
      split
      · rename_i hj; subst hj; simp [hi2, hat]
      · rfl
    rw [hself]
    simp (maxSteps := 1000000) [spec_SetFlags.l0, List.range_succ, bs_get, setAt, hl, hlen, hat, e5, hu, hmin, hbit, hbit2, hii, h3, hng, c, encReg, IntKind.bits]
  · rw [if_neg c]
    simp (maxSteps := 1000000) [spec_SetFlags.l0, List.range_succ, bs_get, setAt, hl, hlen, hat, e5, hu, hmin, hbit, hbit2, hii, h3, hng, c, h1, encReg, IntKind.bits]
theorem spec_SetFlags.says (h : spec_SetFlags.k M) (l : List Reg) (n t w : Int) (hl : l.length ≤ 1048576) : run M 184 [.c (regs l), .c (I n), .a [I t, I w]] [] = some (.c (.sl true 3 ((setFlags l n t w).map encReg)), []) := by
  obtain ⟨h0, k1, k3, k2, k4⟩ := h
  have h1 := spec_l01In.inR k1 n 0 7
  have h2 := spec_FlagsOk.says k2 l hl
  have h3 := spec_l04Copy.says k3 l hl
  refine run_code (b := spec_SetFlags.m) h0 ⟨4, ?_⟩
  have e7 : (l.map encReg).length = l.length := by simp
  have e8 : (l.map encReg).all (fun r => r.all T.scalar) = true := by simp [T.scalar]
  unfold setFlags
  simp only [regs] at *
  cases c1 : flagsOk l
  · simp only [Bool.false_eq_true, false_and, if_false]
    generalize l.map encReg = r at *
    simp (maxSteps := 1000000) [exB, spec_SetFlags.m, spec_SetFlags.b, List.range_succ, bs_get, setAt, h2, h3, c1, e7, e8, List.take_of_length_le]
  cases c2 : inR 0 n 7
  · simp only [Bool.false_eq_true, and_false, if_false]
    generalize l.map encReg = r at *
    simp (maxSteps := 1000000) [exB, spec_SetFlags.m, spec_SetFlags.b, List.range_succ, bs_get, setAt, h1, h2, h3, c1, c2, e7, e8, List.take_of_length_le]
  have hl3 := (flagsOk_regs c1).1
  obtain ⟨g, hr⟩ := count_loop (f := exC (run M) 4 spec_SetFlags.l0) l.length (shS l n t w) 0 (shE l n t w)
    (fun i hi x => spec_SetFlags.turn k4 l n t w 4 i (inR_iff.1 c2).1 hl3 hi x)
    (fun x => by
      obtain ⟨v, u, x⟩ := x
      simp only [shS, shE, Prod.exists]
      generalize (setTo l n t w l.length).map encReg = rr
      simp (maxSteps := 1000000) [spec_SetFlags.l0, List.range_succ, bs_get, setAt])
  have e9 : ((setTo l n t w l.length).map encReg).length = l.length := by simp [setTo_len]
  simp only [true_and, if_true]
  rw [← setTo_all]
  simp only [shS, shE, setTo_zero] at hr
  generalize (setTo l n t w l.length).map encReg = rr at *
  generalize l.map encReg = r at *
  simp [hl3] at hr
  simp (maxSteps := 1000000) [exB, spec_SetFlags.m, spec_SetFlags.b, List.range_succ, bs_get, setAt, hr, h1, h2, h3, c1, c2, e7, e8, e9, hl3, List.take_of_length_le]
end Mx

namespace Mx
open Go
variable {M : Nat → Option Body}
def flagMail (b : Box) (g n t w : Int) : Box × Bool := match mailO b.mails g with
  | none => (b, false)
  | some k => match b.mails[k]? with
    | none => (b, false)
    | some m => if boxOk b = true ∧ inR 0 n 7 = true ∧ stampOk t w = true then ({ b with mails := b.mails.set k { m with flags := setFlags m.flags n t w } }, true) else (b, false)
theorem mailO_lt {l : List Mail} {g : Int} {k : Nat} (h : mailO l g = some k) : k < l.length := atO_lt l g _ _ _ h
set_option maxHeartbeats 1000000 in
theorem spec_FlagMail.says (h : spec_FlagMail.k M) (b : Box) (hb : BoxIn b) (g n t w : Int) : run M 84 [.a (encBox b), .c (I g), .c (I n), .a [I t, I w]] [] = some (.tup [.a (encBoxO (flagMail b g n t w).1), .c (.bool (flagMail b g n t w).2)], []) := by
  obtain ⟨h0, k2, k1, k3, k4, k5, k6⟩ := h
  have h1 := spec_MailAt.says k1 b g hb.m
  have h2 := spec_BoxOk.says k2 b hb.ok.1 hb.ok.2.1 hb.ok.2.2.1 hb.ok.2.2.2
  have h3 := spec_l01In.inR k3 n 0 7
  have h4 := spec_l06Copy.says k4 b hb
  have h5 := spec_StampOk.says k5 t w
  refine run_code (b := spec_FlagMail.m) h0 ⟨0, ?_⟩
  have e7 : (b.mails.map encMail).length = b.mails.length := by simp
  have e8 := irow_length b.gone
  unfold flagMail
  cases hk : mailO b.mails g with
  | none =>
    rw [hk] at h1
    simp only [intO] at h1
    simp only [encBox, encBoxO, mails, ints] at *
    generalize boxOk b = ok at *
    generalize b.mails.map encMail = rm at *
    generalize irow b.gone = rg at *
    cases ok <;> simp (maxSteps := 1000000) [exB, spec_FlagMail.m, spec_FlagMail.b, List.range_succ, bs_get, setAt, h1, h2, h4, e7, e8, List.take_of_length_le]
  | some k =>
    have hlt := mailO_lt hk
    rw [hk] at h1
    simp only [intO] at h1
    have h6 := spec_SetFlags.says k6 b.mails[k].flags n t w (hb.f _ (List.getElem_mem hlt))
    have hat : (b.mails.map encMail)[k]'(by rw [e7]; exact hlt) = [I b.mails[k].gid, I b.mails[k].uid, regs b.mails[k].flags, S b.mails[k].text] := by rw [List.getElem_map]
    have hset : (b.mails.set k { b.mails[k] with flags := setFlags b.mails[k].flags n t w }).map encMail = (b.mails.map encMail).set k [I b.mails[k].gid, I b.mails[k].uid, .sl false 3 ((setFlags b.mails[k].flags n t w).map encReg), S b.mails[k].text] := by rw [List.map_set]
    have hng : ¬ (k : Int) < 0 := by omega
    simp only [List.getElem?_eq_getElem hlt]
    cases c1 : boxOk b
    · rw [c1] at h2
      simp only [Bool.false_eq_true, false_and, if_false]
      simp only [encBox, encBoxO, mails, ints] at *
      generalize b.mails.map encMail = rm at *
      generalize irow b.gone = rg at *
      simp (maxSteps := 1000000) [exB, spec_FlagMail.m, spec_FlagMail.b, List.range_succ, bs_get, setAt, h1, h2, h4, e7, e8, List.take_of_length_le]
    rw [c1] at h2
    cases c2 : inR 0 n 7
    · rw [c2] at h3
      simp only [Bool.false_eq_true, false_and, and_false, if_false]
      simp only [encBox, encBoxO, mails, ints] at *
      generalize b.mails.map encMail = rm at *
      generalize irow b.gone = rg at *
      simp (maxSteps := 1000000) [exB, spec_FlagMail.m, spec_FlagMail.b, List.range_succ, bs_get, setAt, h1, h2, h3, h4, e7, e8, hng, List.take_of_length_le]
    rw [c2] at h3
    cases c3 : stampOk t w
    · rw [c3] at h5
      simp only [Bool.false_eq_true, and_false, if_false]
      simp only [encBox, encBoxO, mails, ints] at *
      generalize b.mails.map encMail = rm at *
      generalize irow b.gone = rg at *
      simp (maxSteps := 1000000) [exB, spec_FlagMail.m, spec_FlagMail.b, List.range_succ, bs_get, setAt, h1, h2, h3, h4, h5, e7, e8, hng, List.take_of_length_le]
    rw [c3] at h5
    simp only [and_self, if_true]
    simp only [encBox, encBoxO, mails, ints, hset] at *
    generalize b.mails.map encMail = rm at *
    generalize irow b.gone = rg at *
    simp (maxSteps := 1000000) [exB, spec_FlagMail.m, spec_FlagMail.b, List.range_succ, bs_get, setAt, h1, h2, h3, h4, h5, h6, e7, e8, hng, hlt, hat, List.take_of_length_le]
def addMail (b : Box) (g f : Int) (text : List UInt8) (t w : Int) : Box × Bool :=
  if boxOk b = true ∧ mailO b.mails g = none ∧ ¬ g ∈ b.gone ∧ inR 0 f 7 = true ∧ boxOk { b with mails := b.mails ++ [⟨g, b.next, flagsNew f t w, text⟩], next := b.next + 1 } = true
  then ({ b with mails := b.mails ++ [⟨g, b.next, flagsNew f t w, text⟩], next := b.next + 1 }, true) else (b, false)
set_option maxHeartbeats 2000000 in
theorem spec_AddMail.says (h : spec_AddMail.k M) (b : Box) (hb : BoxIn b) (g f : Int) (text : List UInt8) (t w : Int) :
    run M 81 [.a (encBox b), .c (I g), .c (I f), .c (S text), .a [I t, I w]] [] = some (.tup [.a (encBoxO (addMail b g f text t w).1), .c (.bool (addMail b g f text t w).2)], []) := by
  obtain ⟨h0, k2, k1, k3, k5, k4, k6⟩ := h
  have h1 := spec_MailAt.says k1 b g hb.m
  have h2 := spec_BoxOk.says k2 b hb.ok.1 hb.ok.2.1 hb.ok.2.2.1 hb.ok.2.2.2
  have h3 := spec_l01In.inR k3 f 0 7
  have h4 := spec_l06Copy.says k4 b hb
  have h5 := spec_l06In.says k5 b.gone g (by have := hb.g; omega)
  have h6 := spec_FlagsNew.says k6 f t w
  refine run_code (b := spec_AddMail.m) h0 ⟨0, ?_⟩
  have e7 : (b.mails.map encMail).length = b.mails.length := by simp
  have e8 := irow_length b.gone
  unfold addMail
  cases c1 : boxOk b
  · rw [c1] at h2
    simp only [Bool.false_eq_true, false_and, if_false]
    simp only [encBox, encBoxO, mails, ints] at *
    generalize b.mails.map encMail = rm at *
    generalize irow b.gone = rg at *
    simp (maxSteps := 1000000) [exB, spec_AddMail.m, spec_AddMail.b, List.range_succ, bs_get, setAt, h2, h4, e7, e8, List.take_of_length_le]
  rw [c1] at h2
  cases hk : mailO b.mails g with
  | some k =>
    have hge : (0 : Int) ≤ k := by omega
    rw [hk] at h1
    simp only [intO] at h1
    simp only [reduceCtorEq, false_and, and_false, if_false]
    simp only [encBox, encBoxO, mails, ints] at *
    generalize b.mails.map encMail = rm at *
    generalize irow b.gone = rg at *
    simp (maxSteps := 1000000) [exB, spec_AddMail.m, spec_AddMail.b, List.range_succ, bs_get, setAt, h1, h2, h4, e7, e8, hge, List.take_of_length_le]
  | none =>
  rw [hk] at h1
  simp only [intO] at h1
  by_cases c2 : g ∈ b.gone
  · rw [decide_eq_true c2] at h5
    simp only [c2, not_true_eq_false, false_and, and_false, if_false]
    simp only [encBox, encBoxO, mails, ints] at *
    generalize b.mails.map encMail = rm at *
    generalize irow b.gone = rg at *
    simp (maxSteps := 1000000) [exB, spec_AddMail.m, spec_AddMail.b, List.range_succ, bs_get, setAt, h1, h2, h4, h5, e7, e8, List.take_of_length_le]
  rw [decide_eq_false c2] at h5
  cases c3 : inR 0 f 7
  · rw [c3] at h3
    simp only [Bool.false_eq_true, false_and, and_false, if_false]
    simp only [encBox, encBoxO, mails, ints] at *
    generalize b.mails.map encMail = rm at *
    generalize irow b.gone = rg at *
    simp (maxSteps := 1000000) [exB, spec_AddMail.m, spec_AddMail.b, List.range_succ, bs_get, setAt, h1, h2, h3, h4, h5, e7, e8, List.take_of_length_le]
  rw [c3] at h3
  have hnx : b.next ≤ 1000000000 ∧ 0 ≤ b.next := by
    have := (boxOk_vars c1).2.2.2.2.1; exact ⟨this.2, this.1⟩
  have hml := (boxOk_vars c1).2.2.2.2.2.1
  have e9 : IntKind.i64.wrap (b.next + 1) = b.next + 1 := wrap_i64 (by omega) (by omega)
  have hout : BoxIn { b with mails := b.mails ++ [⟨g, b.next, flagsNew f t w, text⟩], next := b.next + 1 } := by
    refine ⟨by simp; omega, hb.g, hb.n, fun m hm => ?_⟩
    rcases List.mem_append.1 hm with hm | hm
    · exact hb.f m hm
    · simp only [List.mem_singleton] at hm
      subst hm; simp [flagsNew]
  have h7 := spec_BoxOk.says k2 _ hout.ok.1 hout.ok.2.1 hout.ok.2.2.1 hout.ok.2.2.2
  have e10 : (b.mails ++ [(⟨g, b.next, flagsNew f t w, text⟩ : Mail)]).map encMail = b.mails.map encMail ++ [[I g, I b.next, .sl false 3 ((flagsNew f t w).map encReg), S text]] := by simp
  have e11 : b.mails.length + 1 ≤ 4294967296 := by omega
  simp only [encBox, mails, e10] at h7
  simp only [hk, c2, not_false_eq_true, true_and]
  cases c4 : boxOk { b with mails := b.mails ++ [⟨g, b.next, flagsNew f t w, text⟩], next := b.next + 1 }
  · rw [c4] at h7
    simp only [Bool.false_eq_true, if_false]
    simp only [encBox, encBoxO, mails, ints] at *
    generalize (flagsNew f t w).map encReg = rf at *
    generalize b.mails.map encMail = rm at *
    generalize irow b.gone = rg at *
    simp (maxSteps := 1000000) [exB, spec_AddMail.m, spec_AddMail.b, List.range_succ, bs_get, setAt, h1, h2, h3, h4, h5, h6, h7, e7, e8, e9, e11, List.take_of_length_le]
  · rw [c4] at h7
    simp only [if_true]
    simp only [encBox, encBoxO, mails, ints, e10] at *
    generalize (flagsNew f t w).map encReg = rf at *
    generalize b.mails.map encMail = rm at *
    generalize irow b.gone = rg at *
    simp (maxSteps := 1000000) [exB, spec_AddMail.m, spec_AddMail.b, List.range_succ, bs_get, setAt, h1, h2, h3, h4, h5, h6, h7, e7, e8, e9, e11, List.take_of_length_le]
end Mx

namespace Mx
attribute [simp] oTmps
open Go
variable {M : Nat → Option Body}
end Mx

namespace Mx
open Go
variable {M : Nat → Option Body}
theorem gidsOk_asc {l : List Int} {most : Int} (h : gidsOk l most = true) : Asc l := by
  simp only [gidsOk, Bool.and_eq_true, decide_eq_true_eq, Option.isNone_iff_eq_none, firstN_isNone] at h
  have hn : ∀ j (hj : j < l.length), ∀ i (hi : i < j), l[i]'(by omega) < l[j] := by
    intro j
    induction j with
    | zero => intro _ i hi; omega
    | succ j ih =>
      intro hj i hi
      have := h.1 (j + 1) hj
      rw [badGid_at hj] at this
      simp at this
      by_cases e : i = j
      · subst e; exact this.2
      · exact Int.lt_trans (ih (by omega) i (by omega)) this.2
  exact List.pairwise_iff_getElem.2 fun i j hi hj hij => hn j hj i hij
theorem boxOk_gone {b : Box} (h : boxOk b = true) : gidsOk b.gone 40 = true := by
  simp only [boxOk, Bool.and_eq_true] at h
  exact h.1.2
def takeOut (b : Box) (g : Int) : Box × Bool := match mailO b.mails g with
  | none => (b, false)
  | some k => if boxOk b = true ∧ b.gone.length < 40 then ({ b with mails := b.mails.take k ++ b.mails.drop (k + 1), gone := gput b.gone g }, true) else (b, false)
set_option maxHeartbeats 1000000 in
theorem spec_TakeOut.says (h : spec_TakeOut.k M) (b : Box) (hb : BoxIn b) (g : Int) : run M 86 [.a (encBox b), .c (I g)] [] = some (.tup [.a (encBoxO (takeOut b g).1), .c (.bool (takeOut b g).2)], []) := by
  obtain ⟨h0, k2, k1, k5, k3⟩ := h
  have h1 := spec_MailAt.says k1 b g hb.m
  have h2 := spec_BoxOk.says k2 b hb.ok.1 hb.ok.2.1 hb.ok.2.2.1 hb.ok.2.2.2
  have h4 := spec_l06Copy.says k3 b hb
  have h5 := spec_l06Put.says k5 b.gone g (by have := hb.g; omega)
  refine run_code (b := spec_TakeOut.m) h0 ⟨0, ?_⟩
  have e7 : (b.mails.map encMail).length = b.mails.length := by simp
  have e8 := irow_length b.gone
  unfold takeOut
  cases hk : mailO b.mails g with
  | none =>
    rw [hk] at h1
    simp only [intO] at h1
    simp only [encBox, encBoxO, mails, ints] at *
    generalize boxOk b = ok at *
    generalize b.mails.map encMail = rm at *
    generalize irow b.gone = rg at *
    cases ok <;> simp (maxSteps := 1000000) [exB, spec_TakeOut.m, spec_TakeOut.b, List.range_succ, bs_get, setAt, h1, h2, h4, e7, e8, List.take_of_length_le]
  | some k =>
    have hlt := mailO_lt hk
    rw [hk] at h1
    simp only [intO] at h1
    have hng : ¬ (k : Int) < 0 := by omega
    cases c1 : boxOk b
    · rw [c1] at h2
      simp only [Bool.false_eq_true, false_and, if_false]
      simp only [encBox, encBoxO, mails, ints] at *
      generalize b.mails.map encMail = rm at *
      generalize irow b.gone = rg at *
      simp (maxSteps := 1000000) [exB, spec_TakeOut.m, spec_TakeOut.b, List.range_succ, bs_get, setAt, h1, h2, h4, e7, e8, List.take_of_length_le]
    rw [c1] at h2
    have h40 := (boxOk_vars c1).2.2.2.2.2.2.1
    have hml := (boxOk_vars c1).2.2.2.2.2.1
    by_cases c2 : b.gone.length < 40
    · have n2 : ¬ 40 ≤ b.gone.length := by omega
      have n3 : ¬ (40 : Int) ≤ (b.gone.length : Int) := by omega
      simp only [c2, and_self, if_true]
      have e9 := wrap1 (i := k) (by omega)
      have e10 : (b.mails.take k ++ b.mails.drop (k + 1)).map encMail = (b.mails.map encMail).take k ++ (b.mails.map encMail).drop (k + 1) := by simp
      have e14 : min k b.mails.length = k := by omega
      have e12 := irow_length (gput b.gone g)
      have e13 : b.mails.length ≤ min k b.mails.length + (b.mails.length - (k + 1) + 1) + 1 := by omega
      simp only [encBox, encBoxO, mails, ints, e10] at *
      generalize b.mails.map encMail = rm at *
      generalize irow b.gone = rg at *
      generalize irow (gput b.gone g) = ru at *
      have f1 : k ≤ b.mails.length := by omega
      have f2 : k + 1 ≤ b.mails.length := by omega
      have f3 : (0 : Int) ≤ k := by omega
      have f4 : (0 : Int) ≤ (k : Int) + 1 := by omega
      have f5 : (k : Int) ≤ b.mails.length := by omega
      have f6 : (k : Int) + 1 ≤ b.mails.length := by omega
      have f7 : ((k : Int) + 1).toNat = k + 1 := by omega
      have f8 : rm.take b.mails.length = rm := List.take_of_length_le (by omega)
      have f9 : k ≤ 4294967296 := by omega
      have f10 : b.mails.length ≤ 4294967296 := by omega
      have f11 : k + (b.mails.length - (k + 1)) ≤ 4294967296 := by omega
      have f13 : IntKind.i64.wrap 1 = 1 := wrap_i64 (by omega) (by omega)
      have f14 : b.mails.length ≤ 4294967297 := by omega
      have f12 : rm.length - (k + 1) ≤ 4294967296 := by omega
      by_cases z : k = 0
      · subst z
        by_cases y : b.mails.length = 1
        · have y2 : rm.drop 1 = [] := List.drop_eq_nil_of_le (by omega)
          simp (maxSteps := 1000000) [exB, spec_TakeOut.m, spec_TakeOut.b, List.range_succ, bs_get, setAt, h1, h2, h4, h5, e7, e8, e9, e12, n2, n3, f13, y, y2, List.take_of_length_le]
        · have y1 : ¬ 1 = b.mails.length := by omega
          simp (maxSteps := 1000000) [exB, spec_TakeOut.m, spec_TakeOut.b, List.range_succ, bs_get, setAt, h1, h2, h4, h5, e7, e8, e9, e12, n2, n3, f1, f2, f3, f4, f5, f6, f7, f8, f9, f10, f11, f12, f13, f14, y, y1, List.take_of_length_le]
      · have z0 : ¬ 0 = k := by omega
        by_cases y : b.mails.length = k + 1
        · have y2 : rm.drop (k + 1) = [] := List.drop_eq_nil_of_le (by omega)
          simp (maxSteps := 1000000) [exB, spec_TakeOut.m, spec_TakeOut.b, List.range_succ, bs_get, setAt, h1, h2, h4, h5, e7, e8, e9, e12, e14, hng, n2, n3, f1, f2, f3, f4, f5, f6, f7, f8, f9, f10, f11, f12, z, z0, y, y2, List.take_of_length_le]
        · have y1 : ¬ k + 1 = b.mails.length := by omega
          simp (maxSteps := 1000000) [exB, spec_TakeOut.m, spec_TakeOut.b, List.range_succ, bs_get, setAt, h1, h2, h4, h5, e7, e8, e9, e12, e14, hng, n2, n3, f1, f2, f3, f4, f5, f6, f7, f8, f9, f10, f11, f12, z, z0, y, y1, List.take_of_length_le]
    · have n2 : 40 ≤ b.gone.length := by omega
      have n3 : (40 : Int) ≤ (b.gone.length : Int) := by omega
      simp only [c2, and_false, if_false]
      simp only [encBox, encBoxO, mails, ints] at *
      generalize b.mails.map encMail = rm at *
      generalize irow b.gone = rg at *
      simp (maxSteps := 1000000) [exB, spec_TakeOut.m, spec_TakeOut.b, List.range_succ, bs_get, setAt, h1, h2, h4, e7, e8, n2, n3, hng, List.take_of_length_le]
end Mx

namespace Mx
open Go
theorem atO_some (l : List Mail) (g : Int) : ∀ d i k, atO l g d i = some k → i ≤ k ∧ ∃ h : k < l.length, (l[k]).gid = g ∧ ∀ j, i ≤ j → (hj : j < k) → (l[j]'(by omega)).gid ≠ g
  | 0, i, k, h => by simp [atO] at h
  | d + 1, i, k, h => by
    simp only [atO] at h
    split at h
    · rename_i hi
      split at h
      · rename_i e
        cases h
        exact ⟨Nat.le_refl _, hi, e, fun j h1 h2 => by omega⟩
      · rename_i e
        obtain ⟨h1, h2, h3, h4⟩ := atO_some l g d (i + 1) k h
        refine ⟨by omega, h2, h3, fun j hj hk => ?_⟩
        by_cases q : j = i
        · subst q; exact e
        · exact h4 j (by omega) hk
    · cases h
theorem atO_none (l : List Mail) (g : Int) : ∀ d i, atO l g d i = none → ∀ j, i ≤ j → j < i + d → (hj : j < l.length) → (l[j]).gid ≠ g
  | 0, i, h, j, h1, h2, hj => by omega
  | d + 1, i, h, j, h1, h2, hj => by
    simp only [atO] at h
    rw [dif_pos (by omega)] at h
    split at h
    · cases h
    · rename_i e
      by_cases q : j = i
      · subst q; exact e
      · exact atO_none l g d (i + 1) h j (by omega) (by omega) hj
theorem mailO_some {l : List Mail} {g : Int} {k : Nat} (h : mailO l g = some k) : ∃ h : k < l.length, (l[k]).gid = g ∧ ∀ j, (hj : j < k) → (l[j]'(by omega)).gid ≠ g := by
  obtain ⟨_, h1, h2, h3⟩ := atO_some l g _ _ _ h
  exact ⟨h1, h2, fun j hj => h3 j (Nat.zero_le _) hj⟩
theorem mailO_none {l : List Mail} {g : Int} : mailO l g = none ↔ ∀ m ∈ l, m.gid ≠ g := by
  constructor
  · intro h m hm
    obtain ⟨j, hj, rfl⟩ := List.getElem_of_mem hm
    exact atO_none l g _ _ h j (Nat.zero_le _) (by omega) hj
  · intro h
    cases q : mailO l g with
    | none => rfl
    | some k =>
      obtain ⟨h1, h2, _⟩ := mailO_some q
      exact (h _ (List.getElem_mem h1) h2).elim
theorem mailO_at {l : List Mail} {k : Nat} (hk : k < l.length) (h : ∀ j, (hj : j < k) → (l[j]'(by omega)).gid ≠ (l[k]).gid) : mailO l (l[k]).gid = some k := by
  cases q : mailO l (l[k]).gid with
  | none => exact (mailO_none.1 q _ (List.getElem_mem hk) rfl).elim
  | some k' =>
    obtain ⟨h1, h2, h3⟩ := mailO_some q
    rcases Nat.lt_trichotomy k' k with c | c | c
    · exact (h k' c h2).elim
    · rw [c]
    · exact (h3 k c rfl).elim
/-- a right box -/
structure Good (b : Box) : Prop where
  gid : 1 ≤ b.gid ∧ b.gid ≤ 9999
  name : nameOk b.name = true
  st : stampOk b.time b.who = true
  next : 1 ≤ b.next ∧ b.next ≤ 10000
  len : b.mails.length ≤ 10
  gone : Asc b.gone
  goneR : ∀ g ∈ b.gone, 1 ≤ g ∧ g ≤ 9999
  goneL : b.gone.length ≤ 40
  mail : ∀ m ∈ b.mails, mailOk m = true ∧ m.uid < b.next ∧ ¬ m.gid ∈ b.gone
  uids : b.mails.Pairwise (fun a c => a.uid < c.uid)
  gids : b.mails.Pairwise (fun a c => a.gid ≠ c.gid)
theorem step_asc {l : List Int} (h : ∀ j (hj : j + 1 < l.length), l[j] < l[j + 1]) : Asc l := by
  have hn : ∀ j (hj : j < l.length), ∀ i (hi : i < j), l[i]'(by omega) < l[j] := by
    intro j
    induction j with
    | zero => intro _ i hi; omega
    | succ j ih =>
      intro hj i hi
      by_cases e : i = j
      · subst e; exact h i hj
      · exact Int.lt_trans (ih (by omega) i (by omega)) (h j hj)
  exact List.pairwise_iff_getElem.2 fun i j hi hj hij => hn j hj i hij
theorem gidsOk_iff {l : List Int} {most : Int} : gidsOk l most = true ↔ Asc l ∧ (∀ g ∈ l, 1 ≤ g ∧ g ≤ 9999) ∧ (l.length : Int) ≤ most := by
  constructor
  · intro h
    exact ⟨gidsOk_asc h, (gidsOk_vars h).2, (gidsOk_vars h).1⟩
  · rintro ⟨h1, h2, h3⟩
    simp only [gidsOk, Bool.and_eq_true, decide_eq_true_eq, Option.isNone_iff_eq_none, firstN_isNone]
    refine ⟨fun j hj => ?_, h3⟩
    rw [badGid_at hj]
    have q1 := h2 _ (List.getElem_mem hj)
    simp only [Bool.or_eq_false_iff, Bool.not_eq_eq_eq_not, Bool.not_false, Bool.and_eq_false_imp, decide_eq_true_eq, decide_eq_false_iff_not]
    refine ⟨inR_iff.2 q1, fun h0 => ?_⟩
    have := List.pairwise_iff_getElem.1 h1 (j - 1) j (by omega) hj (by omega)
    omega
theorem boxOk_iff {b : Box} : boxOk b = true ↔ Good b := by
  constructor
  · intro h
    have hv := boxOk_vars h
    have hg := gidsOk_iff.1 (boxOk_gone h)
    simp only [boxOk, Bool.and_eq_true, decide_eq_true_eq, Option.isNone_iff_eq_none, firstN_isNone] at h
    obtain ⟨⟨⟨⟨⟨⟨h1, h2⟩, h3⟩, h4⟩, h5⟩, h6⟩, h7⟩ := h
    have key : ∀ i (hi : i < b.mails.length), mailOk b.mails[i] = true ∧ b.mails[i].uid < b.next ∧ (0 < i → b.mails[i - 1].uid < b.mails[i].uid) ∧ mailO b.mails b.mails[i].gid = some i ∧ ¬ b.mails[i].gid ∈ b.gone := by
      intro i hi
      have := h7 i hi
      rw [badMail_at hi] at this
      simp only [Bool.or_eq_false_iff, Bool.not_eq_eq_eq_not, Bool.not_false, Bool.and_eq_false_imp, decide_eq_true_eq, decide_eq_false_iff_not] at this
      obtain ⟨⟨⟨⟨q1, q2⟩, q3⟩, q4⟩, q5⟩ := this
      refine ⟨q1, by omega, fun h0 => by have := q3 h0; omega, ?_, q5⟩
      cases e : mailO b.mails b.mails[i].gid with
      | none => rw [e] at q4; simp only [intO] at q4; omega
      | some k => rw [e] at q4; simp only [intO] at q4; rw [show k = i by omega]
    refine ⟨inR_iff.1 h1, h2, h3, inR_iff.1 h4, h5, hg.1, hg.2.1, by omega, fun m hm => ?_, ?_, ?_⟩
    · obtain ⟨j, hj, rfl⟩ := List.getElem_of_mem hm
      have := key j hj
      exact ⟨this.1, this.2.1, this.2.2.2.2⟩
    · have ha : Asc (b.mails.map (·.uid)) := step_asc fun j hj => by
        simp only [List.length_map] at hj
        have := (key (j + 1) hj).2.2.1 (by omega)
        simpa using this
      exact List.pairwise_map.1 ha
    · refine List.pairwise_iff_getElem.2 fun i j hi hj hij e => ?_
      obtain ⟨_, _, h3⟩ := mailO_some (key j hj).2.2.2.1
      exact h3 i hij e
  · intro h
    simp only [boxOk, Bool.and_eq_true, decide_eq_true_eq, Option.isNone_iff_eq_none, firstN_isNone]
    refine ⟨⟨⟨⟨⟨⟨inR_iff.2 h.gid, h.name⟩, h.st⟩, inR_iff.2 h.next⟩, h.len⟩, gidsOk_iff.2 ⟨h.gone, h.goneR, by have := h.goneL; omega⟩⟩, fun i hi => ?_⟩
    rw [badMail_at hi]
    obtain ⟨q1, q2, q3⟩ := h.mail _ (List.getElem_mem hi)
    simp only [Bool.or_eq_false_iff, Bool.not_eq_eq_eq_not, Bool.not_false, Bool.and_eq_false_imp, decide_eq_true_eq, decide_eq_false_iff_not]
    refine ⟨⟨⟨⟨q1, by omega⟩, fun h0 => ?_⟩, ?_⟩, q3⟩
    · have := List.pairwise_iff_getElem.1 h.uids (i - 1) i (by omega) hi (by omega)
      omega
    · rw [mailO_at hi fun j hj => List.pairwise_iff_getElem.1 h.gids j i (by omega) hi hj]
      rfl
end Mx

namespace Mx
open Go
/-- a drawn box after i turns -/
structure Drawn (i : Nat) (b : Box) : Prop where
  good : Good b
  m : ∀ m ∈ b.mails, 10 ≤ m.gid ∧ m.gid ≤ 18
  g : ∀ g ∈ b.gone, 10 ≤ g ∧ g ≤ 18
  nx : b.next ≤ 4 + i
  gl : b.gone.length ≤ i
theorem Drawn.mono {i j : Nat} {b : Box} (h : Drawn i b) (hij : i ≤ j) : Drawn j b := ⟨h.good, h.m, h.g, by have := h.nx; omega, by have := h.gl; omega⟩
theorem Good.inB {b : Box} (h : Good b) : BoxIn b :=
  ⟨by have := h.len; omega, by have := h.goneL; omega, by have := (nameOk_len h.name).2; omega, fun m hm => by have := (mailOk_vars (h.mail m hm).1).2.2.1; omega⟩
theorem gput_len (l : List Int) (x : Int) : (gput l x).length ≤ l.length + 1 := by
  have h : ∀ l : List Int, (l.filter (fun y => decide (y < x))).length + (l.filter (fun y => decide (x < y))).length ≤ l.length := by
    intro l
    induction l with
    | nil => simp
    | cons a l ih =>
      simp only [List.filter_cons]
      by_cases c1 : a < x
      · have c2 : ¬ x < a := by omega
        simp [c1, c2]; omega
      · by_cases c2 : x < a
        · simp [c1, c2]; omega
        · simp [c1, c2]; omega
  have := h l
  simp only [gput, List.length_append, List.length_singleton]; omega
theorem sub_take_drop {α : Type} (l : List α) (k : Nat) : (l.take k ++ l.drop (k + 1)).Sublist l := by
  have e : l = l.take k ++ l.drop k := (List.take_append_drop k l).symm
  have h1 : (l.drop (k + 1)).Sublist (l.drop k) := by rw [← List.drop_drop]; exact List.drop_sublist 1 _
  have h2 := List.Sublist.append (List.Sublist.refl (l.take k)) h1
  rw [← e] at h2; exact h2
theorem good_take {b : Box} (h : Good b) {k : Nat} (hk : k < b.mails.length) (h40 : b.gone.length < 40) :
    Good { b with mails := b.mails.take k ++ b.mails.drop (k + 1), gone := gput b.gone (b.mails[k]).gid } := by
  have hs := sub_take_drop b.mails k
  have hq := h.mail _ (List.getElem_mem hk)
  have hv := (mailOk_vars hq.1).1
  have hgid : 1 ≤ (b.mails[k]).gid ∧ (b.mails[k]).gid ≤ 9999 := by
    have := hq.1
    simp only [mailOk, Bool.and_eq_true] at this
    exact inR_iff.1 this.1.1.1
  refine ⟨h.gid, h.name, h.st, h.next, by have := hs.length_le; have := h.len; simp only; omega, gput_asc h.gone, fun g hg => ?_, by have := gput_len b.gone (b.mails[k]).gid; simp only; omega, fun m hm => ?_, h.uids.sublist hs, h.gids.sublist hs⟩
  · rcases gput_mem.1 hg with q | q
    · rw [q]; exact hgid
    · exact h.goneR g q
  · have hm' := h.mail m (hs.subset hm)
    refine ⟨hm'.1, hm'.2.1, fun c => ?_⟩
    rcases gput_mem.1 c with q | q
    · rcases List.mem_append.1 hm with z | z
      · obtain ⟨j, hj, rfl⟩ := List.getElem_of_mem z
        rw [List.getElem_take] at q
        have hjk : j < k := by simp at hj; omega
        exact List.pairwise_iff_getElem.1 h.gids j k (by omega) hk hjk q
      · obtain ⟨j, hj, rfl⟩ := List.getElem_of_mem z
        rw [List.getElem_drop] at q
        exact List.pairwise_iff_getElem.1 h.gids k (k + 1 + j) hk (by simp at hj; omega) (by omega) q.symm
    · exact hm'.2.2 q
end Mx

namespace Mx
open Go
variable {M : Nat → Option Body}
theorem spec_l01Once.says (h : spec_l01Once.k M) {R : List (List T)} (hR : Bytes R) (i : Nat) (q : Int) (hi : i ≤ R.length) (n : Nat) (h0 : 0 < n) (hn : n ≤ 256) :
    ∃ (s : Bool) (i' : Nat) (q' : Int), i' ≤ R.length ∧ run M 175 [.c (.ptr 0 0 0 0), .c (I n)] [curD R i q] = some (.c (.bool s), [curD R i' q']) := by
  obtain ⟨hm, k1⟩ := h
  obtain ⟨x, i1, q1, hx, hi1, h1⟩ := spec_l01Below.says k1 hR i q hi n h0 (by omega)
  refine ⟨decide (x = 0), i1, q1, hi1, ?_⟩
  refine run_code (b := spec_l01Once.m) hm ⟨0, ?_⟩
  simp (maxSteps := 1000000) [exB, spec_l01Once.m, spec_l01Once.b, List.range_succ, bs_get, setAt, h1]
end Mx

namespace Mx
open Go
variable {M : Nat → Option Body}
theorem Good.flags {b : Box} (h : Good b) : ∀ m ∈ b.mails, m.flags.length ≤ 4 := fun m hm => by have := (mailOk_vars (h.mail m hm).1).2.2.1; omega
end Mx

namespace Mx
open Go
theorem assignU_gids (need : Int → Bool) : ∀ (l : List Mail) (n : Int), (assignU need n l).1.map (·.gid) = l.map (·.gid)
  | [], n => rfl
  | m :: l, n => by
    simp only [assignU]
    split
    · simp [assignU_gids need l (n + 1)]
    · simp [assignU_gids need l n]
theorem assignU_next (need : Int → Bool) : ∀ (l : List Mail) (n : Int), n ≤ (assignU need n l).2 ∧ (assignU need n l).2 ≤ n + l.length
  | [], n => by simp [assignU]
  | m :: l, n => by
    simp only [assignU, List.length_cons]
    split
    · have := assignU_next need l (n + 1); simp only; omega
    · have := assignU_next need l n; simp only; omega
theorem assignU_mem (need : Int → Bool) : ∀ (l : List Mail) (n : Int) (m : Mail), m ∈ (assignU need n l).1 →
    ∃ m0 ∈ l, m0.gid = m.gid ∧ m.flags = m0.flags ∧ m.text = m0.text ∧ ((need m.gid = true ∧ n ≤ m.uid ∧ m.uid < (assignU need n l).2) ∨ (need m.gid = false ∧ m.uid = m0.uid))
  | [], n, m, h => by simp [assignU] at h
  | a :: l, n, m, h => by
    simp only [assignU] at h ⊢
    split at h
    · rename_i c
      rw [if_pos c]
      rcases List.mem_cons.1 h with rfl | h
      · exact ⟨a, List.mem_cons_self .., rfl, rfl, rfl, .inl ⟨c, by simp only; omega, by have := (assignU_next need l (n + 1)).1; simp only; omega⟩⟩
      · obtain ⟨m0, h1, h2, h3, h4, h5⟩ := assignU_mem need l (n + 1) m h
        exact ⟨m0, List.mem_cons_of_mem _ h1, h2, h3, h4, h5.imp (fun q => ⟨q.1, by omega, q.2.2⟩) id⟩
    · rename_i c
      rw [if_neg c]
      rcases List.mem_cons.1 h with rfl | h
      · exact ⟨m, List.mem_cons_self .., rfl, rfl, rfl, .inr ⟨by simpa using c, rfl⟩⟩
      · obtain ⟨m0, h1, h2, h3, h4, h5⟩ := assignU_mem need l n m h
        exact ⟨m0, List.mem_cons_of_mem _ h1, h2, h3, h4, h5⟩
/-- the Gids that both come to, ascending -/
def stay (a b : Box) : List Int := (joinGone (gids a.mails) (gids b.mails)).filter fun g => !decide (g ∈ joinGone a.gone b.gone)
theorem stay_mem {a b : Box} {g : Int} : g ∈ stay a b ↔ (g ∈ gids a.mails ∨ g ∈ gids b.mails) ∧ ¬ (g ∈ a.gone ∨ g ∈ b.gone) := by
  simp [stay, List.mem_filter, joinGone_mem]
theorem joinedS_perm {a b : Box} (ha : (gids a.mails).Nodup) (hb : (gids b.mails).Nodup) :
    (joinedS a b).1.Perm (assignU (needs a b) (Max.max a.next b.next) ((stay a b).map (joinM a.mails b.mails))).1 := by
  rw [← joined_eq ha hb]
  simp only [joinedI]
  rw [srt_eq ha hb]
  exact sortBy_perm _
theorem joinedS_gids {a b : Box} (ha : (gids a.mails).Nodup) (hb : (gids b.mails).Nodup) : (gids (joinedS a b).1).Perm (stay a b) := by
  have h := (joinedS_perm ha hb).map (fun m : Mail => m.gid)
  rw [assignU_gids] at h
  refine h.trans (List.Perm.of_eq ?_)
  rw [List.map_map]
  have : ∀ l : List Int, (∀ g ∈ l, g ∈ gids a.mails ∨ g ∈ gids b.mails) → l.map ((fun m : Mail => m.gid) ∘ joinM a.mails b.mails) = l := by
    intro l hl
    induction l with
    | nil => rfl
    | cons g l ih =>
      rw [List.map_cons, ih fun g hg => hl g (List.mem_cons_of_mem _ hg)]
      simp only [Function.comp]
      rw [joinM_gid (hl g (List.mem_cons_self ..))]
  exact this _ fun g hg => (stay_mem.1 hg).1
end Mx

namespace Mx
open Go
theorem Good.nd {b : Box} (h : Good b) : (Mx.gids b.mails).Nodup := List.pairwise_map.2 h.gids
end Mx

namespace Mx
open Go
theorem joinGone_self {l : List Int} (h : Asc l) : joinGone l l = l :=
  asc_ext (joinGone_asc l l) h fun z => by rw [joinGone_mem]; exact or_self_iff
theorem needs_self (j : Box) (g : Int) : needs j j g = false := by
  unfold needs
  cases q : mailO j.mails g with
  | none =>
    have : holds j g = false := by unfold holds; rw [q]; rfl
    simp [this]
  | some k =>
    have : keepsUid j j g = true := by unfold keepsUid; rw [q]; simp
    simp [this]
theorem assignU_none {need : Int → Bool} (h : ∀ g, need g = false) : ∀ (l : List Mail) (n : Int), assignU need n l = (l, n)
  | [], n => rfl
  | m :: l, n => by
    simp only [assignU, h, Bool.false_eq_true, if_false]
    rw [assignU_none h l n]
/-- mails apart by Gid, ascending by number, none of them gone: joined with themselves they stay -/
theorem joinedS_self {j : Box} (hg : (gids j.mails).Nodup) (hu : j.mails.Pairwise fun x y => x.uid < y.uid) (hn : ∀ m ∈ j.mails, ¬ m.gid ∈ j.gone) : joinedS j j = (j.mails, j.next) := by
  have hp := joinedS_perm hg hg
  rw [assignU_none (needs_self j)] at hp
  simp only at hp
  have hmem : ∀ m, m ∈ (joinedS j j).1 ↔ m ∈ j.mails := by
    intro m
    rw [hp.mem_iff, List.mem_map]
    have hin : ∀ x ∈ j.mails, joinM j.mails j.mails x.gid = x := fun x hx => by
      have := mailIn_mem hg hx
      unfold joinM
      rw [this]
      exact joinMail_self x
    constructor
    · rintro ⟨g, hg', rfl⟩
      have h1 := (stay_mem.1 hg').1
      rw [or_self_iff] at h1
      obtain ⟨x, hx, rfl⟩ := List.mem_map.1 h1
      rw [hin x hx]; exact hx
    · intro hm
      refine ⟨m.gid, stay_mem.2 ⟨.inl (List.mem_map_of_mem hm), ?_⟩, hin m hm⟩
      rw [or_self_iff]; exact hn m hm
  have hsorted : SortedBy (·.uid) (joinedS j j).1 := by
    rw [← joined_eq hg hg]; exact sortBy_sorted _
  have hnd : ((joinedS j j).1.map (·.uid)).Nodup := by
    have hlen : (joinedS j j).1.Perm j.mails := by
      refine (List.perm_ext_iff_of_nodup ?_ ?_).2 hmem
      · have : (gids (joinedS j j).1).Nodup := (joinedS_gids hg hg).nodup_iff.2 (by
          have := (joinGone_asc (gids j.mails) (gids j.mails)).filter (fun g => !decide (g ∈ joinGone j.gone j.gone))
          exact this.imp fun h => by omega)
        exact (List.pairwise_map.1 this).imp fun h e => h (by rw [e])
      · exact (List.pairwise_map.1 hg).imp fun h e => h (by rw [e])
    rw [(hlen.map _).nodup_iff]
    exact List.pairwise_map.2 (hu.imp fun h => by omega)
  have h1 : (joinedS j j).1 = j.mails := ascBy_ext (k := fun m : Mail => m.uid) (asc_of_sorted hsorted hnd) hu hmem
  have h2 : (joinedS j j).2 = j.next := by
    rw [← joined_eq hg hg]
    simp only [joinedI]
    rw [assignU_none (needs_self j)]
    simp only; omega
  exact Prod.ext h1 h2
theorem joinBox_self {j : Box} (hg : (gids j.mails).Nodup) (hu : j.mails.Pairwise fun x y => x.uid < y.uid) (hn : ∀ m ∈ j.mails, ¬ m.gid ∈ j.gone) (ha : Asc j.gone) : joinBox j j = j := by
  unfold joinBox
  rw [joinedS_self hg hu hn, joinGone_self ha]
  simp
end Mx

namespace Mx
open Go
theorem mailO_in_none {l : List Mail} {g : Int} : mailO l g = none ↔ mailIn l g = none := by rw [mailO_none, mailIn_none]
theorem mailO_in_some {l : List Mail} {g : Int} {k : Nat} (h : mailO l g = some k) : ∃ hk : k < l.length, mailIn l g = some l[k] := by
  obtain ⟨h1, h2, h3⟩ := mailO_some h
  refine ⟨h1, ?_⟩
  unfold mailIn
  rw [List.find?_eq_some_iff_getElem]
  exact ⟨by simp [h2], k, h1, rfl, fun j hj => by simpa using h3 j hj⟩
theorem joined_next {a b : Box} (ha : (gids a.mails).Nodup) (hb : (gids b.mails).Nodup) : a.next ≤ (joinedS a b).2 ∧ b.next ≤ (joinedS a b).2 := by
  rw [← joined_eq ha hb]
  simp only [joinedI]
  have := (assignU_next (needs a b) (sortBy (·.gid) ((allM a.mails b.mails).filter fun m => !decide (m.gid ∈ joinGone a.gone b.gone))) (Max.max a.next b.next)).1
  omega
end Mx

namespace Mx
open Go
variable {M : Nat → Option Body}
theorem impl_joined_1.says (h : impl_joined_1.k M) (m : Mail) (G : List Int) (hG : G.length ≤ 4194304) : run M 454 [.a (encMail m), .c (.vp [ints G] 0)] [] = some (.c (.bool (decide (m.gid ∈ G))), []) := by
  have h1 := slices_Contains_int_int.says h.2 G m.gid (by omega)
  refine run_code (b := impl_joined_1.m) h.1 ⟨0, ?_⟩
  simp only [ints] at h1 ⊢
  generalize irow G = g at *
  simp (maxSteps := 1000000) [exB, impl_joined_1.m, impl_joined_1.b, List.range_succ, bs_get, setAt, h1, encMail]
/-- this side's first list -/
def firstM (a b : List Mail) : List Mail := a.map fun m => match mailIn b m.gid with | some y => joinMail m y | none => m
theorem firstM_len (a b : List Mail) : (firstM a b).length = a.length := by simp [firstM]
def jdO (u2 u3 : Nat) (a b : Box) (v : Nat) (rows : List (List T)) : List (Nat × Ob) := [(2, ⟨u2, 7, true, true, [encBox a]⟩), (3, ⟨u3, 7, true, true, [encBox b]⟩), (16, ⟨v, 4, true, false, rows⟩)]
structure JdS where
  i : Nat
  v : Nat
  n : Nat
def jaS (u2 u3 : Nat) (a b : Box) (s : JdS) : St := { t := [(2, .c (.ptr 2 u2 0 0)), (3, .c (.ptr 3 u3 0 0)), (6, .c (.row 16 s.v 0 s.i)), (18, .c (mails a.mails)), (19, .c (I a.mails.length)), (20, .c (I s.i))], o := jdO u2 u3 a b s.v (((firstM a.mails b.mails).take s.i).map encMail), n := s.n }
def jaE (u2 u3 : Nat) (a b : Box) (s : JdS) : St := { t := [(2, .c (.ptr 2 u2 0 0)), (3, .c (.ptr 3 u3 0 0)), (6, .c (.row 16 s.v 0 s.i)), (18, .c (mails a.mails)), (19, .c (I a.mails.length)), (20, .c (I s.i)), (21, .c (.bool false))], o := jdO u2 u3 a b s.v (((firstM a.mails b.mails).take s.i).map encMail), n := s.n }
structure JdK (M : Nat → Option Body) : Prop where
  holds : impl_Holds.k M
  keeps : impl_KeepsUid.k M
  gone : impl_JoinGone.k M
  at_ : impl_MailAt.k M
  copy : impl_copyMail.k M
  join : impl_JoinMail.k M
  del : slices_DeleteFunc_impl_Mail_impl_Mail.k M
  c1 : impl_joined_1.k M
  sort : slices_SortStableFunc_impl_Mail_impl_Mail.k M
  c2 : impl_joined_2.k M
  c3 : impl_joined_3.k M
set_option maxHeartbeats 1000000 in
theorem ja_turn (K : JdK M) (k u2 u3 : Nat) (a b : Box) (ha : BoxIn a) (hb : BoxIn b) (s : JdS) (hs : s.i < a.mails.length) :
    ∃ v' n', exC (run M) k impl_joined.l0 (jaS u2 u3 a b s) = some (.normal, jaS u2 u3 a b ⟨s.i + 1, v', n'⟩) := by
  obtain ⟨i, v, n⟩ := s
  simp only at hs
  have hm := ha.m
  have h1 := impl_MailAt.says K.at_ b a.mails[i].gid hb.m
  have e5 := wrap1 (i := i) (by omega)
  have e6 : i + 1 ≤ 4294967296 := by omega
  have hl := firstM_len a.mails b.mails
  have e7 : (((firstM a.mails b.mails).take i).map encMail).length = i := by simp [hl]; omega
  have e9 : (a.mails.map encMail).length = a.mails.length := by simp
  have e8 : ((firstM a.mails b.mails).take (i + 1)).map encMail = ((firstM a.mails b.mails).take i).map encMail ++ [encMail (firstM a.mails b.mails)[i]] := by
    rw [take_snoc _ _ (by rw [hl]; exact hs), List.map_append]; rfl
  have a1 : ∀ hh, (a.mails.map encMail)[i]'hh = encMail a.mails[i] := by intro hh; simp
  cases hq : mailO b.mails a.mails[i].gid with
  | none =>
    rw [hq] at h1
    have h2 := impl_copyMail.says K.copy a.mails[i] (ha.f _ (List.getElem_mem hs))
    have ef : (firstM a.mails b.mails)[i]'(by rw [hl]; exact hs) = a.mails[i] := by
      simp only [firstM, List.getElem_map, mailO_in_none.1 hq]
    rw [ef] at e8
    simp only [jaS, jdO, e8]
    simp only [encBox, mails, ints, intO, encMail, encMailO, regs] at h1 h2 a1 ⊢
    generalize List.map encMail ((firstM a.mails b.mails).take i) = rr at *
    generalize a.mails.map encMail = ra at *
    generalize b.mails.map encMail = rb at *
    generalize irow a.gone = ga at *
    generalize irow b.gone = gb at *
    generalize a.mails[i].flags.map encReg = rf at *
    simp (maxSteps := 1000000) [impl_joined.l0, List.range_succ, bs_get, setAt, h1, h2, hs, e5, e6, e7, e9, a1, List.take_of_length_le]
  | some q =>
    rw [hq] at h1
    obtain ⟨hq1, hq2⟩ := mailO_in_some hq
    have hf1 := ha.f _ (List.getElem_mem hs)
    have h3 := impl_JoinMail.says K.join a.mails[i] b.mails[q] hf1 (hb.f _ (List.getElem_mem hq1))
    have h2 := impl_copyMail.says K.copy (joinMail a.mails[i] b.mails[q]) (Nat.le_trans (joinMail_flags _ _) hf1)
    have ef : (firstM a.mails b.mails)[i]'(by rw [hl]; exact hs) = joinMail a.mails[i] b.mails[q] := by
      simp only [firstM, List.getElem_map, hq2]
    rw [ef] at e8
    have e10 : (b.mails.map encMail).length = b.mails.length := by simp
    have a2 : ∀ hh, (b.mails.map encMail)[q]'hh = encMail b.mails[q] := by intro hh; simp
    simp only [jaS, jdO, e8]
    simp only [encBox, mails, ints, intO, encMail, encMailO, regs] at h1 h2 h3 a1 a2 ⊢
    generalize List.map encMail ((firstM a.mails b.mails).take i) = rr at *
    generalize a.mails.map encMail = ra at *
    generalize b.mails.map encMail = rb at *
    generalize irow a.gone = ga at *
    generalize irow b.gone = gb at *
    generalize a.mails[i].flags.map encReg = rf at *
    generalize b.mails[q].flags.map encReg = rg at *
    generalize (joinMail a.mails[i] b.mails[q]).flags.map encReg = rj at *
    simp (maxSteps := 1000000) [impl_joined.l0, List.range_succ, bs_get, setAt, h1, h2, h3, hs, hq1, e5, e6, e7, e9, e10, a1, a2, List.take_of_length_le]
theorem ja_end (k u2 u3 : Nat) (a b : Box) (s : JdS) (hs : ¬ s.i < a.mails.length) :
    ∃ n', exC (run M) k impl_joined.l0 (jaS u2 u3 a b s) = some (.exit 0, jaE u2 u3 a b ⟨s.i, s.v, n'⟩) := by
  obtain ⟨i, v, n⟩ := s
  simp only at hs
  simp only [jaS, jaE, jdO]
  generalize List.map encMail ((firstM a.mails b.mails).take i) = rr at *
  simp only [encBox, mails, ints]
  generalize a.mails.map encMail = ra at *
  generalize b.mails.map encMail = rb at *
  simp (maxSteps := 1000000) [impl_joined.l0, List.range_succ, bs_get, setAt, hs]
end Mx

namespace Mx
open Go
variable {M : Nat → Option Body}
theorem holds_isNone (a : Box) (g : Int) : holds a g = !(mailIn a.mails g).isNone := by
  unfold holds
  cases q : mailO a.mails g with
  | none => rw [mailO_in_none.1 q]; rfl
  | some k =>
    obtain ⟨_, h⟩ := mailO_in_some q
    rw [h]
    exact decide_eq_true (Int.natCast_nonneg k)
def upTo (a b : List Mail) (i : Nat) : List Mail := firstM a b ++ (b.take i).filter fun m => (mailIn a m.gid).isNone
theorem upTo_all (a b : List Mail) : upTo a b b.length = allM a b := by
  unfold upTo allM firstM
  rw [List.take_length]
  all_goals (congr 1)
theorem upTo_zero (a b : List Mail) : upTo a b 0 = firstM a b := by simp [upTo]
theorem upTo_len (a b : List Mail) (i : Nat) (hi : i ≤ b.length) : (upTo a b i).length ≤ a.length + i := by
  have := List.length_filter_le (fun m : Mail => (mailIn a m.gid).isNone) (b.take i)
  simp only [upTo, List.length_append, firstM_len]
  simp at this; omega
def jbS (u2 u3 : Nat) (a b : Box) (s : JdS) : St := { t := [(2, .c (.ptr 2 u2 0 0)), (3, .c (.ptr 3 u3 0 0)), (6, .c (.row 16 s.v 0 (upTo a.mails b.mails s.i).length)), (44, .c (mails b.mails)), (45, .c (I b.mails.length)), (46, .c (I s.i))], o := jdO u2 u3 a b s.v ((upTo a.mails b.mails s.i).map encMail), n := s.n }
def jbE (u2 u3 : Nat) (a b : Box) (s : JdS) : St := { t := [(2, .c (.ptr 2 u2 0 0)), (3, .c (.ptr 3 u3 0 0)), (6, .c (.row 16 s.v 0 (upTo a.mails b.mails s.i).length)), (44, .c (mails b.mails)), (45, .c (I b.mails.length)), (46, .c (I s.i)), (47, .c (.bool false))], o := jdO u2 u3 a b s.v ((upTo a.mails b.mails s.i).map encMail), n := s.n }
set_option maxHeartbeats 1000000 in
theorem jb_turn (K : JdK M) (k u2 u3 : Nat) (a b : Box) (ha : BoxIn a) (hb : BoxIn b) (s : JdS) (hs : s.i < b.mails.length) :
    ∃ v' n', exC (run M) k impl_joined.l1 (jbS u2 u3 a b s) = some (.normal, jbS u2 u3 a b ⟨s.i + 1, v', n'⟩) := by
  obtain ⟨i, v, n⟩ := s
  simp only at hs
  have hma := ha.m
  have hm := hb.m
  have h1 := impl_Holds.says K.holds a b.mails[i].gid ha.m
  have e5 := wrap1 (i := i) (by omega)
  have hl := upTo_len a.mails b.mails i (by omega)
  have e7 : ((upTo a.mails b.mails i).map encMail).length = (upTo a.mails b.mails i).length := by simp
  have e6 : (upTo a.mails b.mails i).length + 1 ≤ 4294967296 := by omega
  have e9 : (b.mails.map encMail).length = b.mails.length := by simp
  have a1 : ∀ hh, (b.mails.map encMail)[i]'hh = encMail b.mails[i] := by intro hh; simp
  have eu : upTo a.mails b.mails (i + 1) = upTo a.mails b.mails i ++ if holds a b.mails[i].gid = true then [] else [b.mails[i]] := by
    simp only [upTo, take_snoc _ _ hs, List.filter_append, List.append_assoc, holds_isNone]
    cases q : (mailIn a.mails b.mails[i].gid).isNone <;> simp [q]
  cases hq : holds a b.mails[i].gid with
  | true =>
    rw [hq] at h1 eu
    simp only [if_true, List.append_nil] at eu
    simp only [jbS, jdO, eu]
    simp only [encBox, mails, ints, encMail, regs] at h1 a1 ⊢
    generalize List.map encMail (upTo a.mails b.mails i) = rr at *
    generalize (upTo a.mails b.mails i).length = nr at *
    generalize a.mails.map encMail = ra at *
    generalize b.mails.map encMail = rb at *
    generalize irow a.gone = ga at *
    generalize irow b.gone = gb at *
    generalize b.mails[i].flags.map encReg = rf at *
    simp (maxSteps := 1000000) [impl_joined.l1, List.range_succ, bs_get, setAt, h1, hs, e5, e6, e7, e9, a1, List.take_of_length_le]
  | false =>
    rw [hq] at h1 eu
    simp only [Bool.false_eq_true, if_false] at eu
    have h2 := impl_copyMail.says K.copy b.mails[i] (hb.f _ (List.getElem_mem hs))
    simp only [jbS, jdO, eu, List.map_append, List.map_cons, List.map_nil, List.length_append, List.length_singleton]
    simp only [encBox, mails, ints, encMail, encMailO, regs] at h1 h2 a1 ⊢
    generalize List.map encMail (upTo a.mails b.mails i) = rr at *
    generalize (upTo a.mails b.mails i).length = nr at *
    generalize a.mails.map encMail = ra at *
    generalize b.mails.map encMail = rb at *
    generalize irow a.gone = ga at *
    generalize irow b.gone = gb at *
    generalize b.mails[i].flags.map encReg = rf at *
    simp (maxSteps := 1000000) [impl_joined.l1, List.range_succ, bs_get, setAt, h1, h2, hs, e5, e6, e7, e9, a1, List.take_of_length_le]
theorem jb_end (k u2 u3 : Nat) (a b : Box) (s : JdS) (hs : ¬ s.i < b.mails.length) :
    ∃ n', exC (run M) k impl_joined.l1 (jbS u2 u3 a b s) = some (.exit 2, jbE u2 u3 a b ⟨s.i, s.v, n'⟩) := by
  obtain ⟨i, v, n⟩ := s
  simp only at hs
  simp only [jbS, jbE, jdO]
  generalize List.map encMail (upTo a.mails b.mails i) = rr at *
  simp only [encBox, mails, ints]
  generalize a.mails.map encMail = ra at *
  generalize b.mails.map encMail = rb at *
  simp (maxSteps := 1000000) [impl_joined.l1, List.range_succ, bs_get, setAt, hs]
/-- the first i have their numbers -/
def asgTo (need : Int → Bool) (nx : Int) (l : List Mail) (i : Nat) : List Mail := (assignU need nx (l.take i)).1 ++ l.drop i
def asgN (need : Int → Bool) (nx : Int) (l : List Mail) (i : Nat) : Int := (assignU need nx (l.take i)).2
theorem assignU_snoc (need : Int → Bool) (m : Mail) : ∀ (l : List Mail) (n : Int), assignU need n (l ++ [m]) = if need m.gid = true then ((assignU need n l).1 ++ [{ m with uid := (assignU need n l).2 }], (assignU need n l).2 + 1) else ((assignU need n l).1 ++ [m], (assignU need n l).2)
  | [], n => by simp [assignU]
  | a :: l, n => by
    simp only [List.cons_append, assignU, assignU_snoc need m l]
    by_cases c : need a.gid = true <;> by_cases c2 : need m.gid = true <;> simp [c, c2]
theorem assignU_len (need : Int → Bool) : ∀ (l : List Mail) (n : Int), (assignU need n l).1.length = l.length
  | [], n => rfl
  | a :: l, n => by
    simp only [assignU]
    split <;> simp [assignU_len need l]
theorem asgTo_len (need : Int → Bool) (nx : Int) (l : List Mail) (i : Nat) : (asgTo need nx l i).length = l.length := by
  simp only [asgTo, List.length_append, assignU_len, List.length_take, List.length_drop]; omega
theorem asgTo_at (need : Int → Bool) (nx : Int) (l : List Mail) (i : Nat) (h : i < l.length) : (asgTo need nx l i)[i]'(by rw [asgTo_len]; exact h) = l[i] := by
  have e : (assignU need nx (l.take i)).1.length = i := by rw [assignU_len]; simp; omega
  simp only [asgTo]
  rw [List.getElem_append_right (by omega)]
  simp [e]
theorem asgTo_succ (need : Int → Bool) (nx : Int) (l : List Mail) (i : Nat) (h : i < l.length) :
    asgTo need nx l (i + 1) = if need l[i].gid = true then (asgTo need nx l i).set i { l[i] with uid := asgN need nx l i } else asgTo need nx l i := by
  have e : (assignU need nx (l.take i)).1.length = i := by rw [assignU_len]; simp; omega
  have hd : l.drop i = l[i] :: l.drop (i + 1) := List.drop_eq_getElem_cons h
  simp only [asgTo, asgN, take_snoc l i h, assignU_snoc]
  by_cases c : need l[i].gid = true
  · rw [if_pos c, if_pos c, List.set_append_right _ _ (by omega), e, Nat.sub_self]
    simp
    rw [hd]; rfl
  · rw [if_neg c, if_neg c, hd]
    simp
theorem asgN_succ (need : Int → Bool) (nx : Int) (l : List Mail) (i : Nat) (h : i < l.length) : asgN need nx l (i + 1) = if need l[i].gid = true then asgN need nx l i + 1 else asgN need nx l i := by
  simp only [asgN, take_snoc l i h, assignU_snoc]
  split <;> rfl
theorem asgN_range (need : Int → Bool) (nx : Int) (l : List Mail) (i : Nat) : nx ≤ asgN need nx l i ∧ asgN need nx l i ≤ nx + l.length := by
  have h := assignU_next need (l.take i) nx
  simp only [asgN]
  have : (l.take i).length ≤ l.length := by simp; omega
  omega
structure JcS where
  i : Nat
  v : Nat
  n : Nat
def jcS (u2 u3 : Nat) (a b : Box) (need : Int → Bool) (nx : Int) (l : List Mail) (Z : List (List T)) (s : JcS) : St := { t := [(2, .c (.ptr 2 u2 0 0)), (3, .c (.ptr 3 u3 0 0)), (6, .c (.row 16 s.v 0 l.length)), (13, .c (I (asgN need nx l s.i))), (76, .c (.row 16 s.v 0 l.length)), (77, .c (I l.length)), (78, .c (I s.i))], o := jdO u2 u3 a b s.v ((asgTo need nx l s.i).map encMail ++ Z), n := s.n }
def jcE (u2 u3 : Nat) (a b : Box) (need : Int → Bool) (nx : Int) (l : List Mail) (Z : List (List T)) (s : JcS) : St := { t := [(2, .c (.ptr 2 u2 0 0)), (3, .c (.ptr 3 u3 0 0)), (6, .c (.row 16 s.v 0 l.length)), (13, .c (I (asgN need nx l s.i))), (76, .c (.row 16 s.v 0 l.length)), (77, .c (I l.length)), (78, .c (I s.i)), (79, .c (.bool false))], o := jdO u2 u3 a b s.v ((asgTo need nx l s.i).map encMail ++ Z), n := s.n }
set_option maxHeartbeats 4000000 in
theorem jc_turn (K : JdK M) (k u2 u3 : Nat) (a b : Box) (ha : BoxIn a) (hb : BoxIn b) (nx : Int) (hnx : -1000000000 ≤ nx ∧ nx ≤ 4611686018427387904) (l : List Mail) (hl : l.length ≤ 1048576) (Z : List (List T)) (s : JcS) (hs : s.i < l.length) :
    ∃ n', exC (run M) k impl_joined.l2 (jcS u2 u3 a b (needs a b) nx l Z s) = some (.normal, jcS u2 u3 a b (needs a b) nx l Z ⟨s.i + 1, s.v, n'⟩) := by
  obtain ⟨i, v, n⟩ := s
  simp only at hs
  have h1 := impl_Holds.says K.holds a l[i].gid ha.m
  have h2 := impl_Holds.says K.holds b l[i].gid hb.m
  have h3 := impl_KeepsUid.says K.keeps a b l[i].gid ha.m hb.m
  have h4 := impl_KeepsUid.says K.keeps b a l[i].gid hb.m ha.m
  have e5 := wrap1 (i := i) (by omega)
  have hr := asgN_range (needs a b) nx l i
  have e6 : IntKind.i64.wrap (asgN (needs a b) nx l i + 1) = asgN (needs a b) nx l i + 1 := wrap_i64 (by omega) (by omega)
  have e7 : i < ((asgTo (needs a b) nx l i).map encMail ++ Z).length := by simp [asgTo_len]; omega
  have a1 : ∀ hh, ((asgTo (needs a b) nx l i).map encMail ++ Z)[i]'hh = encMail l[i] := by
    intro hh
    rw [List.getElem_append_left (by simp [asgTo_len]; omega)]
    simp only [List.getElem_map, asgTo_at _ _ _ _ hs]
  have t1 := asgTo_succ (needs a b) nx l i hs
  have t2 := asgN_succ (needs a b) nx l i hs
  have t3 : ((asgTo (needs a b) nx l (i + 1)).map encMail ++ Z) = if needs a b l[i].gid = true then ((asgTo (needs a b) nx l i).map encMail ++ Z).set i (encMail { l[i] with uid := asgN (needs a b) nx l i }) else (asgTo (needs a b) nx l i).map encMail ++ Z := by
    rw [t1]
    split
    · rw [List.map_set, List.set_append_left _ _ (by simp [asgTo_len]; omega)]
    · rfl
  simp only [jcS, jdO, t2, t3]
  have hn : needs a b l[i].gid = (holds a l[i].gid && !keepsUid a b l[i].gid || holds b l[i].gid && !keepsUid b a l[i].gid) := rfl
  rw [hn]
  clear hn t1 t2 t3
  generalize (asgTo (needs a b) nx l i).map encMail ++ Z = rr at *
  generalize asgN (needs a b) nx l i = z at *
  generalize holds a l[i].gid = p1 at *
  generalize holds b l[i].gid = p2 at *
  generalize keepsUid a b l[i].gid = p3 at *
  generalize keepsUid b a l[i].gid = p4 at *
  simp only [encBox, mails, ints, encMail, regs] at h1 h2 h3 h4 a1 ⊢
  generalize a.mails.map encMail = ra at *
  generalize b.mails.map encMail = rb at *
  generalize irow a.gone = ga at *
  generalize irow b.gone = gb at *
  generalize l[i] = m at *
  generalize m.flags.map encReg = rf at *
  generalize l.length = N at *
  cases p1 <;> cases p2 <;> cases p3 <;> cases p4 <;> simp (maxSteps := 1000000) [impl_joined.l2, List.range_succ, bs_get, setAt, h1, h2, h3, h4, hs, e5, e6, e7, a1, List.take_of_length_le]
theorem jc_end (k u2 u3 : Nat) (a b : Box) (need : Int → Bool) (nx : Int) (l : List Mail) (Z : List (List T)) (s : JcS) (hs : ¬ s.i < l.length) :
    ∃ n', exC (run M) k impl_joined.l2 (jcS u2 u3 a b need nx l Z s) = some (.exit 4, jcE u2 u3 a b need nx l Z ⟨s.i, s.v, n'⟩) := by
  obtain ⟨i, v, n⟩ := s
  simp only at hs
  simp only [jcS, jcE, jdO]
  generalize (asgTo need nx l i).map encMail ++ Z = rr at *
  generalize asgN need nx l i = z at *
  simp only [encBox, mails, ints]
  generalize a.mails.map encMail = ra at *
  generalize b.mails.map encMail = rb at *
  simp (maxSteps := 1000000) [impl_joined.l2, List.range_succ, bs_get, setAt, hs]
end Mx

namespace Mx
open Go
variable {M : Nat → Option Body}
theorem asgTo_zero (need : Int → Bool) (nx : Int) (l : List Mail) : asgTo need nx l 0 = l := by simp [asgTo, assignU]
theorem asgN_zero (need : Int → Bool) (nx : Int) (l : List Mail) : asgN need nx l 0 = nx := by simp [asgN, assignU]
theorem asgTo_all (need : Int → Bool) (nx : Int) (l : List Mail) : asgTo need nx l l.length = (assignU need nx l).1 := by simp [asgTo]
theorem asgN_all (need : Int → Bool) (nx : Int) (l : List Mail) : asgN need nx l l.length = (assignU need nx l).2 := by simp [asgN]
theorem firstM_all (a b : List Mail) : (firstM a b).take a.length = firstM a b := List.take_of_length_le (by rw [firstM_len]; exact Nat.le_refl _)
theorem ja_loop (K : JdK M) (k u2 u3 : Nat) (a b : Box) (ha : BoxIn a) (hb : BoxIn b) (v n : Nat) (hk : a.mails.length < k) :
    ∃ v' n', loopN (exC (run M) k impl_joined.l0) k (jaS u2 u3 a b ⟨0, v, n⟩) = some (.exit 0, jaE u2 u3 a b ⟨a.mails.length, v', n'⟩) := by
  obtain ⟨r, hr, ⟨⟨i, v', n'⟩, rfl, hi⟩⟩ := loop_ex (f := exC (run M) k impl_joined.l0) (jaS u2 u3 a b) (fun s => s.i ≤ a.mails.length) (fun s => a.mails.length - s.i) (fun r => ∃ s', r = (.exit 0, jaE u2 u3 a b s') ∧ s'.i = a.mails.length)
    (fun s hs => by
      by_cases c : s.i < a.mails.length
      · left
        obtain ⟨v', n', hh⟩ := ja_turn K k u2 u3 a b ha hb s c
        exact ⟨_, hh, by simp only; omega, by simp only; omega⟩
      · right
        obtain ⟨n', hh⟩ := ja_end (M := M) k u2 u3 a b s c
        exact ⟨_, hh, by simp, _, rfl, by simp only; omega⟩) k ⟨0, v, n⟩ (by simp) (by simp only; omega)
  simp only at hi
  subst hi
  exact ⟨v', n', hr⟩
theorem jb_loop (K : JdK M) (k u2 u3 : Nat) (a b : Box) (ha : BoxIn a) (hb : BoxIn b) (v n : Nat) (hk : b.mails.length < k) :
    ∃ v' n', loopN (exC (run M) k impl_joined.l1) k (jbS u2 u3 a b ⟨0, v, n⟩) = some (.exit 2, jbE u2 u3 a b ⟨b.mails.length, v', n'⟩) := by
  obtain ⟨r, hr, ⟨⟨i, v', n'⟩, rfl, hi⟩⟩ := loop_ex (f := exC (run M) k impl_joined.l1) (jbS u2 u3 a b) (fun s => s.i ≤ b.mails.length) (fun s => b.mails.length - s.i) (fun r => ∃ s', r = (.exit 2, jbE u2 u3 a b s') ∧ s'.i = b.mails.length)
    (fun s hs => by
      by_cases c : s.i < b.mails.length
      · left
        obtain ⟨v', n', hh⟩ := jb_turn K k u2 u3 a b ha hb s c
        exact ⟨_, hh, by simp only; omega, by simp only; omega⟩
      · right
        obtain ⟨n', hh⟩ := jb_end (M := M) k u2 u3 a b s c
        exact ⟨_, hh, by simp, _, rfl, by simp only; omega⟩) k ⟨0, v, n⟩ (by simp) (by simp only; omega)
  simp only at hi
  subst hi
  exact ⟨v', n', hr⟩
theorem jc_loop (K : JdK M) (k u2 u3 : Nat) (a b : Box) (ha : BoxIn a) (hb : BoxIn b) (nx : Int) (hnx : -1000000000 ≤ nx ∧ nx ≤ 4611686018427387904) (l : List Mail) (hl : l.length ≤ 1048576) (Z : List (List T)) (v n : Nat) (hk : l.length < k) :
    ∃ n', loopN (exC (run M) k impl_joined.l2) k (jcS u2 u3 a b (needs a b) nx l Z ⟨0, v, n⟩) = some (.exit 4, jcE u2 u3 a b (needs a b) nx l Z ⟨l.length, v, n'⟩) := by
  obtain ⟨r, hr, ⟨⟨i, v', n'⟩, rfl, hi, hv⟩⟩ := loop_ex (f := exC (run M) k impl_joined.l2) (jcS u2 u3 a b (needs a b) nx l Z) (fun s => s.i ≤ l.length ∧ s.v = v) (fun s => l.length - s.i) (fun r => ∃ s', r = (.exit 4, jcE u2 u3 a b (needs a b) nx l Z s') ∧ s'.i = l.length ∧ s'.v = v)
    (fun s hs => by
      by_cases c : s.i < l.length
      · left
        obtain ⟨n', hh⟩ := jc_turn K k u2 u3 a b ha hb nx hnx l hl Z s c
        exact ⟨_, hh, ⟨by simp only; omega, hs.2⟩, by simp only; omega⟩
      · right
        obtain ⟨n', hh⟩ := jc_end (M := M) k u2 u3 a b (needs a b) nx l Z s c
        have := hs.1
        exact ⟨_, hh, by simp, _, rfl, by simp only; omega, hs.2⟩) k ⟨0, v, n⟩ ⟨by simp, rfl⟩ (by simp only; omega)
  simp only at hi hv
  subst hi
  subst hv
  exact ⟨n', hr⟩
theorem gput_le (l : List Int) (x : Int) : (gput l x).length ≤ l.length + 1 := by
  have h : ∀ l : List Int, (l.filter (fun y => decide (y < x))).length + (l.filter (fun y => decide (x < y))).length ≤ l.length := by
    intro l
    induction l with
    | nil => simp
    | cons a l ih =>
      simp only [List.filter_cons]
      by_cases c1 : a < x
      · have c2 : ¬ x < a := by omega
        simp [c1, c2]; omega
      · by_cases c2 : x < a
        · simp [c1, c2]; omega
        · simp [c1, c2]; omega
  have := h l
  simp only [gput, List.length_append, List.length_singleton]; omega
theorem joinGone_le (a b : List Int) : (joinGone a b).length ≤ a.length + b.length := by
  have key : ∀ (l acc : List Int), (l.foldl gadd acc).length ≤ l.length + acc.length := by
    intro l
    induction l with
    | nil => intro acc; simp
    | cons x l ih =>
      intro acc
      have h1 := ih (gadd acc x)
      have h2 : (gadd acc x).length ≤ acc.length + 1 := by
        unfold gadd
        split
        · omega
        · exact gput_le acc x
      simp only [List.foldl_cons, List.length_cons]; omega
  have := key (a ++ b) []
  simp only [List.length_append, List.length_nil] at this
  exact this
theorem max_int (a b : Int) : Max.max a b = if a < b then b else a := by split <;> omega
set_option maxHeartbeats 4000000 in
theorem impl_joined.says (h : impl_joined.k M) (a b : Box) (ha : BoxIn a) (hb : BoxIn b) (hall : (allM a.mails b.mails).length ≤ 20) (hna : -1000000000 ≤ a.next ∧ a.next ≤ 4611686018427387904) (hnb : -1000000000 ≤ b.next ∧ b.next ≤ 4611686018427387904) :
    run M 437 [.a (encBox a), .a (encBox b)] [] = some (.tup [.c (.sl true 4 ((joinedI a b).1.map encMail)), .c (I (joinedI a b).2)], []) := by
  obtain ⟨h0, kh, kk, kg, ka, kc, kj, kd, k1, ks, k2, k3⟩ := h
  have K : JdK M := ⟨kh, kk, kg, ka, kc, kj, kd, k1, ks, k2, k3⟩
  have hma := ha.m
  have hmb := hb.m
  refine run_code (b := impl_joined.m) h0 ⟨a.mails.length + b.mails.length + 21, ?_⟩
  generalize hk : a.mails.length + b.mails.length + 21 = k
  obtain ⟨v1, n1, r1⟩ := ja_loop K k 2000000 2000016 a b ha hb 2000064 2000160 (by omega)
  obtain ⟨v2, n2, r2⟩ := jb_loop K k 2000000 2000016 a b ha hb v1 (n1 + 64) (by omega)
  have h4 := impl_JoinGone.says kg a.gone b.gone ha.g hb.g
  have hG : (joinGone a.gone b.gone).length ≤ 4194304 := by
    have := joinGone_le a.gone b.gone
    have := ha.g
    have := hb.g
    omega
  have hc1 := fun m => impl_joined_1.says k1 m (joinGone a.gone b.gone) hG
  have h5 := slices_DeleteFunc_impl_Mail_impl_Mail.says kd hc1 (allM a.mails b.mails) (by omega)
  have hkl : ((allM a.mails b.mails).filter fun m => !decide (m.gid ∈ joinGone a.gone b.gone)).length ≤ (allM a.mails b.mails).length := List.length_filter_le _ _
  have h6 := slices_SortStableFunc_impl_Mail_impl_Mail.says ks (k := fun m : Mail => m.gid) (impl_joined_2.says k2) ((allM a.mails b.mails).filter fun m => !decide (m.gid ∈ joinGone a.gone b.gone)) (List.replicate ((allM a.mails b.mails).length - ((allM a.mails b.mails).filter fun m => !decide (m.gid ∈ joinGone a.gone b.gone)).length) mzero) (by omega)
  have hj : joinedI a b = (sortBy (·.uid) (assignU (needs a b) (Max.max a.next b.next) (sortBy (·.gid) ((allM a.mails b.mails).filter fun m => !decide (m.gid ∈ joinGone a.gone b.gone)))).1, (assignU (needs a b) (Max.max a.next b.next) (sortBy (·.gid) ((allM a.mails b.mails).filter fun m => !decide (m.gid ∈ joinGone a.gone b.gone)))).2) := rfl
  rw [hj]
  have el0 : ((allM a.mails b.mails).map encMail).length = (allM a.mails b.mails).length := by simp
  have eF : firstM a.mails b.mails = firstM a.mails b.mails := rfl
  have hfl := firstM_len a.mails b.mails
  simp only [jaS, jaE, jdO, List.take_zero, List.map_nil, firstM_all] at r1
  simp only [jbS, jbE, jdO, upTo_zero, upTo_all, hfl] at r2
  simp only [mRow, List.append_nil] at h5 h6
  generalize hz : List.replicate ((allM a.mails b.mails).length - ((allM a.mails b.mails).filter fun m => !decide (m.gid ∈ joinGone a.gone b.gone)).length) mzero = Z at *
  generalize hl1 : ((allM a.mails b.mails).filter fun m => !decide (m.gid ∈ joinGone a.gone b.gone)) = l1 at *
  have hl2 : (sortBy (fun m : Mail => m.gid) l1).length = l1.length := sortBy_len _
  generalize hs2 : sortBy (fun m : Mail => m.gid) l1 = l2 at *
  obtain ⟨n3, r3⟩ := jc_loop K k 2000000 2000016 a b ha hb (Max.max a.next b.next) (by omega) l2 (by omega) Z v2 (n2 + 112 + 64 + 32 + 96 + 48) (by omega)
  have h7 := slices_SortStableFunc_impl_Mail_impl_Mail.says ks (k := fun m : Mail => m.uid) (impl_joined_3.says k3) (assignU (needs a b) (Max.max a.next b.next) l2).1 Z (by rw [assignU_len]; omega)
  rw [assignU_len] at h7
  simp only [jcS, jcE, jdO, asgTo_zero, asgN_zero, asgTo_all, asgN_all] at r3
  simp only [mRow] at h7
  have el1 : l1.length ≤ (l1.map encMail ++ Z).length := by simp
  have el2 : l2.length ≤ (l2.map encMail ++ Z).length := by simp
  have el3 : l2.length ≤ ((assignU (needs a b) (Max.max a.next b.next) l2).1.map encMail ++ Z).length := by simp [assignU_len]
  have el4 : l2.length ≤ ((sortBy (fun m : Mail => m.uid) (assignU (needs a b) (Max.max a.next b.next) l2).1).map encMail ++ Z).length := by simp [sortBy_len, assignU_len]
  have el5 : (((sortBy (fun m : Mail => m.uid) (assignU (needs a b) (Max.max a.next b.next) l2).1).map encMail ++ Z).take l2.length) = (sortBy (fun m : Mail => m.uid) (assignU (needs a b) (Max.max a.next b.next) l2).1).map encMail := by
    rw [List.take_append_of_le_length (by simp [sortBy_len, assignU_len])]
    exact List.take_of_length_le (by simp [sortBy_len, assignU_len])
  have em := max_int a.next b.next
  have ea : (a.mails.map encMail).length = a.mails.length := by simp
  have eb : (b.mails.map encMail).length = b.mails.length := by simp
  have ez : ((0 : Nat) : Int) = 0 := rfl
  simp only [ez] at r1 r2 r3
  generalize (assignU (needs a b) (Max.max a.next b.next) l2).2 = nz at *
  simp only
  generalize (sortBy (fun m : Mail => m.uid) (assignU (needs a b) (Max.max a.next b.next) l2).1).map encMail = R4 at *
  generalize R4 ++ Z = R4Z at *
  generalize (assignU (needs a b) (Max.max a.next b.next) l2).1.map encMail ++ Z = R3Z at *
  generalize hmx : Max.max a.next b.next = mx at *
  generalize l2.map encMail ++ Z = R2Z at *
  generalize l1.map encMail ++ Z = R1Z at *
  rw [hl2] at *
  clear hl1 hs2 hz hj hc1 K
  generalize (allM a.mails b.mails).map encMail = R0 at *
  generalize (allM a.mails b.mails).length = N0 at *
  generalize (firstM a.mails b.mails).map encMail = RF at *
  generalize l1.length = N1 at *
  simp only [encBox, mails, ints] at *
  generalize a.mails.map encMail = ra at *
  generalize b.mails.map encMail = rb at *
  generalize irow (joinGone a.gone b.gone) = gj at *
  generalize irow a.gone = ga at *
  generalize irow b.gone = gb at *
  by_cases c : a.next < b.next
  · rw [if_pos c] at em
    subst em
    simp (maxSteps := 1000000) [exB, impl_joined.m, impl_joined.b, List.range_succ, bs_get, setAt, r1, r2, r3, h4, h5, h6, h7, c, ea, eb, el0, el1, el2, el3, el4, el5, List.take_of_length_le]
  · rw [if_neg c] at em
    subst em
    simp (maxSteps := 1000000) [exB, impl_joined.m, impl_joined.b, List.range_succ, bs_get, setAt, r1, r2, r3, h4, h5, h6, h7, c, ea, eb, el0, el1, el2, el3, el4, el5, List.take_of_length_le]
end Mx

namespace Mx
open Go
variable {M : Nat → Option Body}
/-- what is asked of two boxes that are joined -/
structure Joins (a b : Box) : Prop where
  ia : BoxIn a
  ib : BoxIn b
  ga : a.gone.length ≤ 500000
  gb : b.gone.length ≤ 500000
  na : (gids a.mails).Nodup
  nb : (gids b.mails).Nodup
  all : (allM a.mails b.mails).length ≤ 20
  xa : -1000000000 ≤ a.next ∧ a.next ≤ 1000000000
  xb : -1000000000 ≤ b.next ∧ b.next ≤ 1000000000
theorem joined_count {a b : Box} (h : Joins a b) : (joinedS a b).1.length ≤ 20 := by
  rw [← joined_eq h.na h.nb]
  simp only [joinedI, sortBy_len, assignU_len]
  exact Nat.le_trans (List.length_filter_le _ _) h.all
set_option maxHeartbeats 4000000 in
theorem impl_JoinBox.says (h : impl_JoinBox.k M) (a b : Box) (H : Joins a b) : run M 401 [.a (encBox a), .a (encBox b)] [] = some (.a (encBoxO (joinBox a b)), []) := by
  obtain ⟨h0, kg, kc, kl, kj⟩ := h
  have h1 := impl_copyBox.says kc a H.ia
  have h2 := impl_JoinGone.says kg a.gone b.gone H.ia.g H.ib.g
  have h3 := impl_Later.says kl b.time b.who a.time a.who
  have h4 := impl_Later.says kl a.time a.who b.time b.who
  have h5 := impl_joined.says kj a b H.ia H.ib H.all (by have := H.xa; omega) (by have := H.xb; omega)
  rw [joined_eq H.na H.nb] at h5
  have e1 : (joinGone a.gone b.gone).length ≤ 4194304 := by
    have := joinGone_le a.gone b.gone
    have := H.ia.g
    have := H.ib.g
    omega
  have e2 := irow_length (joinGone a.gone b.gone)
  have e3 : ((joinedS a b).1.map encMail).length = (joinedS a b).1.length := by simp
  have e4 : (a.mails.map encMail).length = a.mails.length := by simp
  have e5 := irow_length a.gone
  have e6 := bless_gtr a.name b.name
  refine run_code (b := impl_JoinBox.m) h0 ⟨0, ?_⟩
  unfold joinBox
  by_cases c : a.gid = b.gid
  · rw [if_pos c]
    generalize later b.time b.who a.time a.who = x at *
    generalize later a.time a.who b.time b.who = y at *
    generalize hw : bless a.name b.name = w at *
    clear hw
    simp only [encBox, encBoxO, mails, ints] at *
    generalize (joinedS a b).1.map encMail = rj at *
    generalize (joinedS a b).1.length = nj at *
    generalize (joinedS a b).2 = xj at *
    generalize irow (joinGone a.gone b.gone) = gj at *
    generalize a.mails.map encMail = ra at *
    generalize b.mails.map encMail = rb at *
    generalize irow a.gone = ga at *
    generalize irow b.gone = gb at *
    rw [c] at h5
    cases x <;> cases y <;> cases w <;> simp (maxSteps := 1000000) [exB, impl_JoinBox.m, impl_JoinBox.b, List.range_succ, bs_get, setAt, h2, h3, h4, h5, c, e1, e2, e3, e6, List.take_of_length_le]
  · rw [if_neg c]
    simp only [encBox, encBoxO, mails, ints] at *
    generalize a.mails.map encMail = ra at *
    generalize b.mails.map encMail = rb at *
    generalize irow a.gone = ga at *
    generalize irow b.gone = gb at *
    simp (maxSteps := 1000000) [exB, impl_JoinBox.m, impl_JoinBox.b, List.range_succ, bs_get, setAt, h1, c, e4, e5, List.take_of_length_le]
theorem joined_flags {a b : Box} (H : Joins a b) : ∀ m ∈ (joinedS a b).1, m.flags.length ≤ 1048576 := by
  intro m hm
  obtain ⟨m0, h1, h2, h3, _, _⟩ := assignU_mem _ _ _ m ((joinedS_perm H.na H.nb).mem_iff.1 hm)
  obtain ⟨g, hg, rfl⟩ := List.mem_map.1 h1
  rw [h3]
  unfold joinM
  cases q1 : mailIn a.mails g with
  | some x =>
    have hx := H.ia.f x (mailIn_some q1).1
    cases q2 : mailIn b.mails g with
    | some y => exact Nat.le_trans (joinMail_flags _ _) hx
    | none => exact hx
  | none =>
    cases q2 : mailIn b.mails g with
    | some y => exact H.ib.f y (mailIn_some q2).1
    | none => simp
theorem joinBox_in {a b : Box} (H : Joins a b) : BoxIn (joinBox a b) := by
  unfold joinBox
  split
  · refine ⟨by have := joined_count H; simp only; omega, ?_, ?_, joined_flags H⟩
    · have := joinGone_le a.gone b.gone
      have := H.ga
      have := H.gb
      simp only; omega
    · simp only; split
      · exact H.ib.n
      · exact H.ia.n
  · exact H.ia
end Mx

namespace Mx
open Go
variable {M : Nat → Option Body}
theorem allM_le (a b : List Mail) : (allM a b).length ≤ a.length + b.length := by
  have := List.length_filter_le (fun m : Mail => (mailIn a m.gid).isNone) b
  simp only [allM, List.length_append, List.length_map]; omega
theorem Good.joins {a b : Box} (ha : Good a) (hb : Good b) : Joins a b :=
  ⟨ha.inB, hb.inB, by have := ha.goneL; omega, by have := hb.goneL; omega, ha.nd, hb.nd, by have := allM_le a.mails b.mails; have := ha.len; have := hb.len; omega, by have := ha.next; omega, by have := hb.next; omega⟩
end Mx

namespace Mx
open Go
variable {M : Nat → Option Body}
theorem spec_l08Next.says (h : spec_l08Next.k M) (a b : Box) : run M 459 [.a (encBox a), .a (encBox b)] [] = some (.c (I (Max.max a.next b.next)), []) := by
  refine run_code (b := spec_l08Next.m) h ⟨0, ?_⟩
  have e : Max.max a.next b.next = if b.next < a.next then a.next else b.next := by split <;> omega
  rw [e]
  simp only [encBox, mails, ints]
  by_cases c : b.next < a.next
  · simp (maxSteps := 1000000) [exB, spec_l08Next.m, spec_l08Next.b, List.range_succ, bs_get, setAt, c]
  · simp (maxSteps := 1000000) [exB, spec_l08Next.m, spec_l08Next.b, List.range_succ, bs_get, setAt, c]
theorem mfilter_fold (p : Mail → Bool) : ∀ (l s : List Mail), l.foldl (fun s a => if p a = true then s ++ [a] else s) s = s ++ l.filter p
  | [], s => by simp
  | a :: l, s => by
    rw [List.foldl_cons, mfilter_fold p l, List.filter_cons]
    by_cases h : p a = true <;> simp [h]
def lpS (l : List Mail) (m : Mail) (i : Nat) (s : List Mail) (x : Nat × Nat) : St := { t := [(0, .c (mails l)), (3, .c (.ptr 3 2000000 0 0)), (5, .c (.row 8 x.1 0 s.length)), (6, .c (I i))], o := [(3, ⟨2000000, 4, true, true, [encMail m]⟩), (8, ⟨x.1, 4, true, false, s.map encMail⟩)], n := x.2 }
def lpE (l : List Mail) (m : Mail) (s : List Mail) (x : Nat × Nat) : St := { t := [(0, .c (mails l)), (3, .c (.ptr 3 2000000 0 0)), (5, .c (.row 8 x.1 0 s.length)), (6, .c (I l.length)), (12, .c (.bool false))], o := [(3, ⟨2000000, 4, true, true, [encMail m]⟩), (8, ⟨x.1, 4, true, false, s.map encMail⟩)], n := x.2 }
def lqS (l : List Mail) (m : Mail) (i : Nat) (s : List Mail) (x : Nat × Nat) : St := { t := [(0, .c (mails l)), (3, .c (.ptr 3 2000000 0 0)), (5, .c (.row 8 x.1 0 s.length)), (7, .c (I i))], o := [(3, ⟨2000000, 4, true, true, [encMail m]⟩), (8, ⟨x.1, 4, true, false, s.map encMail⟩)], n := x.2 }
def lqE (l : List Mail) (m : Mail) (s : List Mail) (x : Nat × Nat) : St := { t := [(0, .c (mails l)), (3, .c (.ptr 3 2000000 0 0)), (5, .c (.row 8 x.1 0 s.length)), (7, .c (I l.length)), (37, .c (.bool false))], o := [(3, ⟨2000000, 4, true, true, [encMail m]⟩), (8, ⟨x.1, 4, true, false, s.map encMail⟩)], n := x.2 }
set_option maxHeartbeats 2000000 in
theorem spec_l08Put.says (h : spec_l08Put.k M) (l : List Mail) (m : Mail) (hl : l.length ≤ 16777216) : run M 462 [.c (mails l), .a (encMail m)] [] = some (.c (.sl true 4 ((insBy (·.uid) l m).map encMail)), []) := by
  refine run_code (b := spec_l08Put.m) h ⟨l.length + 1, ?_⟩
  have hrow : (l.map encMail).length = l.length := by simp
  have hat : ∀ i (hi : i < l.length) hh, (l.map encMail)[i]'hh = encMail l[i] := by intro i hi hh; simp
  obtain ⟨g, hr⟩ := fold_loop (f := exC (run M) (l.length + 1) spec_l08Put.l0) l (fun s a => if decide (a.uid ≤ m.uid) = true then s ++ [a] else s) (fun i s => s.length ≤ i) (lpS l m) 0 (lpE l m)
    (fun i h s hs => by split <;> (try simp) <;> omega)
    (fun i hi s x hs => by
      obtain ⟨v, n⟩ := x
      have e5 := wrap1 (i := i) (by omega)
      have e6 : s.length + 1 ≤ 4294967296 := by omega
      have e9 : (s.map encMail).length = s.length := by simp
      have a1 := hat i hi
      simp only [Prod.exists]
      by_cases c : l[i].uid ≤ m.uid
      · simp only [c, decide_true, if_true, lpS, List.map_append, List.map_cons, List.map_nil, List.length_append, List.length_singleton]
        simp only [mails, encMail, regs] at a1 ⊢
        generalize s.map encMail = rr at *
        generalize l.map encMail = rl at *
        generalize l[i].flags.map encReg = rf at *
        simp (maxSteps := 1000000) [spec_l08Put.l0, List.range_succ, bs_get, setAt, hi, hrow, a1, c, e5, e6, e9, List.take_of_length_le]
      · simp only [c, decide_false, Bool.false_eq_true, if_false, lpS]
        simp only [mails, encMail, regs] at a1 ⊢
        generalize s.map encMail = rr at *
        generalize l.map encMail = rl at *
        generalize l[i].flags.map encReg = rf at *
        simp (maxSteps := 1000000) [spec_l08Put.l0, List.range_succ, bs_get, setAt, hi, hrow, a1, c, e5])
    (fun s x hs => by
      obtain ⟨v, n⟩ := x
      simp only [Prod.exists, lpS, lpE, mails]
      generalize l.map encMail = rl at *
      simp (maxSteps := 1000000) [spec_l08Put.l0, List.range_succ, bs_get, setAt, hrow]) [] (by simp)
  obtain ⟨g', hr'⟩ := fold_loop (f := exC (run M) (l.length + 1) spec_l08Put.l1) l (fun s a => if decide (m.uid < a.uid) = true then s ++ [a] else s) (fun i s => s.length ≤ l.length + 1 + i) (lqS l m) 2 (lqE l m)
    (fun i h s hs => by split <;> (try simp) <;> omega)
    (fun i hi s x hs => by
      obtain ⟨v, n⟩ := x
      have e5 := wrap1 (i := i) (by omega)
      have e6 : s.length + 1 ≤ 4294967296 := by omega
      have e9 : (s.map encMail).length = s.length := by simp
      have a1 := hat i hi
      simp only [Prod.exists]
      by_cases c : m.uid < l[i].uid
      · simp only [c, decide_true, if_true, lqS, List.map_append, List.map_cons, List.map_nil, List.length_append, List.length_singleton]
        simp only [mails, encMail, regs] at a1 ⊢
        generalize s.map encMail = rr at *
        generalize l.map encMail = rl at *
        generalize l[i].flags.map encReg = rf at *
        simp (maxSteps := 1000000) [spec_l08Put.l1, List.range_succ, bs_get, setAt, hi, hrow, a1, c, e5, e6, e9, List.take_of_length_le]
      · simp only [c, decide_false, Bool.false_eq_true, if_false, lqS]
        simp only [mails, encMail, regs] at a1 ⊢
        generalize s.map encMail = rr at *
        generalize l.map encMail = rl at *
        generalize l[i].flags.map encReg = rf at *
        simp (maxSteps := 1000000) [spec_l08Put.l1, List.range_succ, bs_get, setAt, hi, hrow, a1, c, e5])
    (fun s x hs => by
      obtain ⟨v, n⟩ := x
      simp only [Prod.exists, lqS, lqE, mails]
      generalize l.map encMail = rl at *
      simp (maxSteps := 1000000) [spec_l08Put.l1, List.range_succ, bs_get, setAt, hrow]) (l.filter (fun y => decide (y.uid ≤ m.uid)) ++ [m]) (by have := List.length_filter_le (fun y : Mail => decide (y.uid ≤ m.uid)) l; simp; omega)
  rw [mfilter_fold] at hr hr'
  have hr0 := hr (2000032, 2000080)
  generalize g (2000032, 2000080) = y at *
  obtain ⟨v1, n1⟩ := y
  have hr1 := hr' (n1 + 48, n1 + 96)
  generalize g' (n1 + 48, n1 + 96) = y at *
  obtain ⟨v2, n2⟩ := y
  have e1 : (l.filter (fun y => decide (y.uid ≤ m.uid))).length ≤ 16777216 := Nat.le_trans (List.length_filter_le _ _) hl
  have e2 : (l.filter (fun y => decide (m.uid < y.uid))).length ≤ 16777216 := Nat.le_trans (List.length_filter_le _ _) hl
  simp only [lpS, lpE, lqS, lqE, List.nil_append, List.map_append, List.map_cons, List.map_nil, List.length_append, List.length_singleton, List.length_nil] at hr0 hr1
  have e3 : ((l.filter (fun y => decide (y.uid ≤ m.uid))).map encMail).length = (l.filter (fun y => decide (y.uid ≤ m.uid))).length := by simp
  have e4 : ((l.filter (fun y => decide (m.uid < y.uid))).map encMail).length = (l.filter (fun y => decide (m.uid < y.uid))).length := by simp
  have ez : ((0 : Nat) : Int) = 0 := rfl
  simp only [ez] at hr0 hr1
  simp only [insBy, List.map_append, List.map_cons, List.map_nil]
  simp only [mails, encMail, regs] at *
  generalize (l.filter (fun y => decide (y.uid ≤ m.uid))).map encMail = r1 at *
  generalize (l.filter (fun y => decide (m.uid < y.uid))).map encMail = r2 at *
  generalize (l.filter (fun y => decide (y.uid ≤ m.uid))).length = k1 at *
  generalize (l.filter (fun y => decide (m.uid < y.uid))).length = k2 at *
  generalize l.map encMail = rl at *
  generalize m.flags.map encReg = rf at *
  have e5 : k1 + 1 ≤ 4294967296 := by omega
  have e6 : (r1 ++ ([I m.gid, I m.uid, T.sl false 3 rf, S m.text] :: r2)).take (k1 + 1 + k2) = r1 ++ ([I m.gid, I m.uid, T.sl false 3 rf, S m.text] :: r2) := List.take_of_length_le (by simp; omega)
  have e7 : k1 + 1 + k2 ≤ k1 + (k2 + 1) := by omega
  simp (maxSteps := 1000000) [exB, spec_l08Put.m, spec_l08Put.b, List.range_succ, bs_get, setAt, e7, hr0, hr1, e3, e4, e5, e6, List.take_of_length_le]
def gcS (u2 u3 : Nat) (a b : Box) (i : Nat) (s : List Int) (x : Nat × Nat) : St := { t := [(2, .c (.ptr 2 u2 0 0)), (3, .c (.ptr 3 u3 0 0)), (5, .c (.row 8 x.1 0 s.length)), (6, .c (I i))], o := [(2, ⟨u2, 7, true, true, [encBox a]⟩), (3, ⟨u3, 7, true, true, [encBox b]⟩), (8, ⟨x.1, 1, true, false, irow s⟩)], n := x.2 }
def gcE (u2 u3 : Nat) (a b : Box) (s : List Int) (x : Nat × Nat) : St := { t := [(2, .c (.ptr 2 u2 0 0)), (3, .c (.ptr 3 u3 0 0)), (5, .c (.row 8 x.1 0 s.length)), (6, .c (I a.mails.length)), (13, .c (.bool false))], o := [(2, ⟨u2, 7, true, true, [encBox a]⟩), (3, ⟨u3, 7, true, true, [encBox b]⟩), (8, ⟨x.1, 1, true, false, irow s⟩)], n := x.2 }
def gdS (u3 : Nat) (b : Box) (i : Nat) (s : List Int) (x : Nat × Nat) : St := { t := [(3, .c (.ptr 3 u3 0 0)), (5, .c (.row 8 x.1 0 s.length)), (7, .c (I i))], o := [(3, ⟨u3, 7, true, true, [encBox b]⟩), (8, ⟨x.1, 1, true, false, irow s⟩)], n := x.2 }
def gdE (u3 : Nat) (b : Box) (s : List Int) (x : Nat × Nat) : St := { t := [(3, .c (.ptr 3 u3 0 0)), (5, .c (.row 8 x.1 0 s.length)), (7, .c (I b.mails.length)), (37, .c (.bool false))], o := [(3, ⟨u3, 7, true, true, [encBox b]⟩), (8, ⟨x.1, 1, true, false, irow s⟩)], n := x.2 }
theorem gadd_le (s : List Int) (x : Int) : (gadd s x).length ≤ s.length + 1 := by
  unfold gadd
  split
  · omega
  · exact gput_le s x
theorem gids_fold (l : List Mail) (s : List Int) : l.foldl (fun s m => gadd s m.gid) s = (gids l).foldl gadd s := by
  simp only [gids, List.foldl_map]
set_option maxHeartbeats 2000000 in
theorem spec_l08Gids.says (h : spec_l08Gids.k M) (a b : Box) (ha : a.mails.length ≤ 1048576) (hb : b.mails.length ≤ 1048576) : run M 460 [.a (encBox a), .a (encBox b)] [] = some (.c (.sl true 1 (irow (joinGone (gids a.mails) (gids b.mails)))), []) := by
  obtain ⟨h0, kin, kput⟩ := h
  refine run_code (b := spec_l08Gids.m) h0 ⟨a.mails.length + b.mails.length + 1, ?_⟩
  generalize hK : a.mails.length + b.mails.length + 1 = K
  have hra : (a.mails.map encMail).length = a.mails.length := by simp
  have hrb : (b.mails.map encMail).length = b.mails.length := by simp
  obtain ⟨g, hr⟩ := fold_loop (f := exC (run M) K spec_l08Gids.l0) a.mails (fun s m => gadd s m.gid) (fun i s => s.length ≤ i) (gcS 2000000 2000016 a b) 0 (gcE 2000000 2000016 a b)
    (fun i h s hs => by have := gadd_le s a.mails[i].gid; omega)
    (fun i hi s x hs => by
      obtain ⟨v, n⟩ := x
      have e5 := wrap1 (i := i) (by omega)
      have e9 := irow_length s
      have h1 := spec_l06In.says kin s a.mails[i].gid (by omega)
      have h2 := spec_l06Put.says kput s a.mails[i].gid (by omega)
      have a1 : ∀ hh, (a.mails.map encMail)[i]'hh = encMail a.mails[i] := by intro hh; simp
      have e10 := irow_length (gput s a.mails[i].gid)
      have hfl := irow_scalar (gput s a.mails[i].gid)
      simp only [Prod.exists, gadd]
      by_cases c : a.mails[i].gid ∈ s
      · rw [decide_eq_true c] at h1
        rw [if_pos c]
        simp only [gcS]
        simp only [encBox, mails, ints, encMail, regs] at a1 h1 ⊢
        generalize irow s = rs at *
        generalize a.mails.map encMail = ra at *
        generalize b.mails.map encMail = rb at *
        simp (maxSteps := 1000000) [spec_l08Gids.l0, List.range_succ, bs_get, setAt, hra, hi, h1, a1, e5, e9, List.take_of_length_le]
      · rw [decide_eq_false c] at h1
        rw [if_neg c]
        simp only [gcS]
        simp only [encBox, mails, ints, encMail, regs] at a1 h1 h2 ⊢
        generalize irow (gput s a.mails[i].gid) = rp at *
        generalize irow s = rs at *
        generalize a.mails.map encMail = ra at *
        generalize b.mails.map encMail = rb at *
        simp (maxSteps := 1000000) [spec_l08Gids.l0, List.range_succ, bs_get, setAt, hra, hi, h1, h2, a1, e5, e9, e10, hfl, List.take_of_length_le])
    (fun s x hs => by
      obtain ⟨v, n⟩ := x
      simp only [Prod.exists, gcS, gcE, encBox, mails, ints]
      generalize a.mails.map encMail = ra at *
      generalize b.mails.map encMail = rb at *
      simp (maxSteps := 1000000) [spec_l08Gids.l0, List.range_succ, bs_get, setAt, hra]) [] (by simp)
  obtain ⟨g', hr'⟩ := fold_loop (f := exC (run M) K spec_l08Gids.l1) b.mails (fun s m => gadd s m.gid) (fun i s => s.length ≤ a.mails.length + i) (gdS 2000016 b) 2 (gdE 2000016 b)
    (fun i h s hs => by have := gadd_le s b.mails[i].gid; omega)
    (fun i hi s x hs => by
      obtain ⟨v, n⟩ := x
      have e5 := wrap1 (i := i) (by omega)
      have e9 := irow_length s
      have h1 := spec_l06In.says kin s b.mails[i].gid (by omega)
      have h2 := spec_l06Put.says kput s b.mails[i].gid (by omega)
      have a1 : ∀ hh, (b.mails.map encMail)[i]'hh = encMail b.mails[i] := by intro hh; simp
      have e10 := irow_length (gput s b.mails[i].gid)
      have hfl := irow_scalar (gput s b.mails[i].gid)
      simp only [Prod.exists, gadd]
      by_cases c : b.mails[i].gid ∈ s
      · rw [decide_eq_true c] at h1
        rw [if_pos c]
        simp only [gdS]
        simp only [encBox, mails, ints, encMail, regs] at a1 h1 ⊢
        generalize irow s = rs at *
        generalize b.mails.map encMail = rb at *
        simp (maxSteps := 1000000) [spec_l08Gids.l1, List.range_succ, bs_get, setAt, hrb, hi, h1, a1, e5, e9, List.take_of_length_le]
      · rw [decide_eq_false c] at h1
        rw [if_neg c]
        simp only [gdS]
        simp only [encBox, mails, ints, encMail, regs] at a1 h1 h2 ⊢
        generalize irow (gput s b.mails[i].gid) = rp at *
        generalize irow s = rs at *
        generalize b.mails.map encMail = rb at *
        simp (maxSteps := 1000000) [spec_l08Gids.l1, List.range_succ, bs_get, setAt, hrb, hi, h1, h2, a1, e5, e9, e10, hfl, List.take_of_length_le])
    (fun s x hs => by
      obtain ⟨v, n⟩ := x
      simp only [Prod.exists, gdS, gdE, encBox, mails, ints]
      generalize b.mails.map encMail = rb at *
      simp (maxSteps := 1000000) [spec_l08Gids.l1, List.range_succ, bs_get, setAt, hrb]) (a.mails.foldl (fun s m => gadd s m.gid) []) (by
        have := foldl_inv a.mails (fun s m => gadd s m.gid) (fun i s => s.length ≤ i) (fun i h s hs => by have := gadd_le s a.mails[i].gid; omega) [] (by simp)
        omega)
  have hj : joinGone (gids a.mails) (gids b.mails) = b.mails.foldl (fun s m => gadd s m.gid) (a.mails.foldl (fun s m => gadd s m.gid) []) := by
    rw [gids_fold, gids_fold, joinGone, List.foldl_append]
  rw [hj]
  clear hj
  have hr0 := loopN_le (hr (2000048, 2000096)) (show a.mails.length + 1 ≤ K by omega)
  generalize g (2000048, 2000096) = y at *
  obtain ⟨v1, n1⟩ := y
  have hr1 := loopN_le (hr' (v1, n1 + 16)) (show b.mails.length + 1 ≤ K by omega)
  generalize g' (v1, n1 + 16) = y at *
  obtain ⟨v2, n2⟩ := y
  generalize hs1 : a.mails.foldl (fun s m => gadd s m.gid) [] = s1 at *
  generalize hs2 : b.mails.foldl (fun s m => gadd s m.gid) s1 = s2 at *
  have ez : ((0 : Nat) : Int) = 0 := rfl
  have e10 := irow_length s2
  simp only [gcS, gcE, gdS, gdE, ez, List.length_nil, irow_nil] at hr0 hr1
  simp only [encBox, mails, ints] at *
  generalize irow s1 = r1 at *
  generalize irow s2 = r2 at *
  generalize a.mails.map encMail = ra at *
  generalize b.mails.map encMail = rb at *
  simp (maxSteps := 1000000) [exB, spec_l08Gids.m, spec_l08Gids.b, List.range_succ, bs_get, setAt, hr0, hr1, e10, List.take_of_length_le]
end Mx

namespace Mx
open Go
variable {M : Nat → Option Body}
def sjO (u2 u3 : Nat) (a b : Box) (v : Nat) (L : List Mail) : List (Nat × Ob) := [(2, ⟨u2, 7, true, true, [encBox a]⟩), (3, ⟨u3, 7, true, true, [encBox b]⟩), (17, ⟨v, 4, true, false, L.map encMail⟩)]
def sjS (u2 u3 : Nat) (a b : Box) (G : List Int) (i : Nat) (s : List Mail × Int) (x : Nat × Nat) : St := { t := [(2, .c (.ptr 2 u2 0 0)), (3, .c (.ptr 3 u3 0 0)), (6, .c (I s.2)), (7, .c (.row 17 x.1 0 s.1.length)), (8, .c (ints G)), (9, .c (I i))], o := sjO u2 u3 a b x.1 s.1, n := x.2 }
def sjE (u2 u3 : Nat) (a b : Box) (G : List Int) (s : List Mail × Int) (x : Nat × Nat) : St := { t := [(2, .c (.ptr 2 u2 0 0)), (3, .c (.ptr 3 u3 0 0)), (6, .c (I s.2)), (7, .c (.row 17 x.1 0 s.1.length)), (8, .c (ints G)), (9, .c (I G.length)), (24, .c (.bool false))], o := sjO u2 u3 a b x.1 s.1, n := x.2 }
structure SjK (M : Nat → Option Body) : Prop where
  keeps : spec_KeepsUid.k M
  at_ : spec_MailAt.k M
  inn : spec_l06In.k M
  copy : spec_l05Copy.k M
  join : spec_JoinMail.k M
  put : spec_l08Put.k M
theorem holds_of {a : Box} {g : Int} : holds a g = (mailO a.mails g).isSome := by
  unfold holds
  cases mailO a.mails g with
  | none => rfl
  | some k => exact decide_eq_true (Int.natCast_nonneg k)
/-- one that is gone -/
theorem sj_gone (K : SjK M) (k u2 u3 : Nat) (a b : Box) (ha : BoxIn a) (hb : BoxIn b) (G : List Int) (hG : G.length ≤ 4194304) (i : Nat) (hi : i < G.length) (s : List Mail × Int) (x : Nat × Nat) (c : G[i] ∈ a.gone ∨ G[i] ∈ b.gone) :
    ∃ y, exC (run M) k spec_l08Join.l0 (sjS u2 u3 a b G i s x) = some (.normal, sjS u2 u3 a b G (i + 1) s y) := by
  obtain ⟨v, n⟩ := x
  obtain ⟨L, nx⟩ := s
  have h1 := spec_l06In.says K.inn a.gone G[i] (by have := ha.g; omega)
  have h2 := spec_l06In.says K.inn b.gone G[i] (by have := hb.g; omega)
  have e5 := wrap1 (i := i) (by omega)
  have eg := irow_length G
  have a0 : ∀ hh, (irow G)[i]'hh = [I G[i]] := by intro hh; simp [irow]
  have hcd : G[i] ∈ a.gone ∨ ¬ G[i] ∈ a.gone ∧ G[i] ∈ b.gone := by
    by_cases q : G[i] ∈ a.gone
    · exact .inl q
    · exact .inr ⟨q, c.resolve_left q⟩
  simp only [Prod.exists, sjS, sjO]
  rcases hcd with q | ⟨q1, q2⟩
  · rw [decide_eq_true q] at h1
    simp only [encBox, mails, ints] at *
    generalize irow G = rg at *
    generalize irow a.gone = ga at *
    generalize irow b.gone = gb at *
    generalize a.mails.map encMail = ra at *
    generalize b.mails.map encMail = rb at *
    generalize L.map encMail = rl at *
    simp (maxSteps := 1000000) [spec_l08Join.l0, List.range_succ, bs_get, setAt, hi, h1, e5, eg, a0, List.take_of_length_le]
  · rw [decide_eq_false q1] at h1
    rw [decide_eq_true q2] at h2
    simp only [encBox, mails, ints] at *
    generalize irow G = rg at *
    generalize irow a.gone = ga at *
    generalize irow b.gone = gb at *
    generalize a.mails.map encMail = ra at *
    generalize b.mails.map encMail = rb at *
    generalize L.map encMail = rl at *
    simp (maxSteps := 1000000) [spec_l08Join.l0, List.range_succ, bs_get, setAt, hi, h1, h2, e5, eg, a0, List.take_of_length_le]
theorem sj_end (k u2 u3 : Nat) (a b : Box) (G : List Int) (s : List Mail × Int) (x : Nat × Nat) :
    ∃ y, exC (run M) k spec_l08Join.l0 (sjS u2 u3 a b G G.length s x) = some (.exit 0, sjE u2 u3 a b G s y) := by
  obtain ⟨v, n⟩ := x
  obtain ⟨L, nx⟩ := s
  have eg := irow_length G
  simp only [Prod.exists, sjS, sjE, sjO]
  simp only [encBox, mails, ints] at *
  generalize irow G = rg at *
  generalize irow a.gone = ga at *
  generalize irow b.gone = gb at *
  generalize a.mails.map encMail = ra at *
  generalize b.mails.map encMail = rb at *
  generalize L.map encMail = rl at *
  simp (maxSteps := 1000000) [spec_l08Join.l0, List.range_succ, bs_get, setAt, eg]
set_option maxHeartbeats 8000000 in
/-- one that both have -/
theorem sj_both (K : SjK M) (k u2 u3 : Nat) (a b : Box) (ha : BoxIn a) (hb : BoxIn b) (G : List Int) (hG : G.length ≤ 4194304) (i : Nat) (hi : i < G.length) (s : List Mail × Int) (hs : s.1.length ≤ 16777216) (hx : -1000000000 ≤ s.2 ∧ s.2 ≤ 1000000000000) (x : Nat × Nat) (c1 : ¬ G[i] ∈ a.gone) (c2 : ¬ G[i] ∈ b.gone)
    (p q : Nat) (hp : mailO a.mails G[i] = some p) (hq : mailO b.mails G[i] = some q) :
    ∃ y, exC (run M) k spec_l08Join.l0 (sjS u2 u3 a b G i s x) = some (.normal, sjS u2 u3 a b G (i + 1) (stepJ a b s G[i]) y) := by
  obtain ⟨v, n⟩ := x
  obtain ⟨L, nx⟩ := s
  simp only at hs hx
  have h1 := spec_l06In.says K.inn a.gone G[i] (by have := ha.g; omega)
  have h2 := spec_l06In.says K.inn b.gone G[i] (by have := hb.g; omega)
  rw [decide_eq_false c1] at h1
  rw [decide_eq_false c2] at h2
  have h3 := spec_MailAt.says K.at_ a G[i] ha.m
  have h4 := spec_MailAt.says K.at_ b G[i] hb.m
  rw [hp] at h3
  rw [hq] at h4
  obtain ⟨hp1, hp2⟩ := mailO_in_some hp
  obtain ⟨hq1, hq2⟩ := mailO_in_some hq
  have h5 := spec_JoinMail.says K.join a.mails[p] b.mails[q] (ha.f _ (List.getElem_mem hp1)) (hb.f _ (List.getElem_mem hq1))
  have h6 := spec_KeepsUid.says K.keeps a b G[i] ha.m hb.m
  have h7 := spec_KeepsUid.says K.keeps b a G[i] hb.m ha.m
  have h8 := spec_l08Put.says K.put L (joinMail a.mails[p] b.mails[q]) hs
  have h9 := spec_l08Put.says K.put L { joinMail a.mails[p] b.mails[q] with uid := nx } hs
  have e5 := wrap1 (i := i) (by omega)
  have e6 : IntKind.i64.wrap (nx + 1) = nx + 1 := wrap_i64 (by omega) (by omega)
  have eg := irow_length G
  have a0 : ∀ hh, (irow G)[i]'hh = [I G[i]] := by intro hh; simp [irow]
  have a1 : ∀ hh, (a.mails.map encMail)[p]'hh = encMail a.mails[p] := by intro hh; simp
  have a2 : ∀ hh, (b.mails.map encMail)[q]'hh = encMail b.mails[q] := by intro hh; simp
  have el : (L.map encMail).length = L.length := by simp
  have eA : (a.mails.map encMail).length = a.mails.length := by simp
  have eB : (b.mails.map encMail).length = b.mails.length := by simp
  have l8 : ((insBy (fun m : Mail => m.uid) L (joinMail a.mails[p] b.mails[q])).map encMail).length = (insBy (fun m : Mail => m.uid) L (joinMail a.mails[p] b.mails[q])).length := by simp
  have l9 : ((insBy (fun m : Mail => m.uid) L { joinMail a.mails[p] b.mails[q] with uid := nx }).map encMail).length = (insBy (fun m : Mail => m.uid) L { joinMail a.mails[p] b.mails[q] with uid := nx }).length := by simp
  have hst : stepJ a b (L, nx) G[i] = if (!keepsUid a b G[i] || !keepsUid b a G[i]) = true then (insBy (fun m : Mail => m.uid) L { joinMail a.mails[p] b.mails[q] with uid := nx }, nx + 1) else (insBy (fun m : Mail => m.uid) L (joinMail a.mails[p] b.mails[q]), nx) := by
    have e1 : needs a b G[i] = (!keepsUid a b G[i] || !keepsUid b a G[i]) := by simp [needs, holds_of, hp, hq]
    have e2 : joinM a.mails b.mails G[i] = joinMail a.mails[p] b.mails[q] := by simp [joinM, hp2, hq2]
    simp only [stepJ]
    rw [if_neg (by simp [c1, c2]), e1, e2]
  rw [hst]
  clear hst hp hq hp2 hq2 c1 c2
  simp only [Prod.exists, sjS, sjO]
  simp only [encBox, mails, ints, intO, encMail, encMailO, regs] at *
  generalize keepsUid a b G[i] = w1 at *
  generalize keepsUid b a G[i] = w2 at *
  generalize joinMail a.mails[p] b.mails[q] = m at *
  generalize insBy (fun m : Mail => m.uid) L { m with uid := nx } = L9 at *
  generalize insBy (fun m : Mail => m.uid) L m = L8 at *
  generalize a.mails[p] = ma at *
  generalize b.mails[q] = mb at *
  generalize G[i] = g at *
  generalize irow G = rg at *
  generalize irow a.gone = ga at *
  generalize irow b.gone = gb at *
  generalize a.mails.map encMail = ra at *
  generalize b.mails.map encMail = rb at *
  generalize L.map encMail = rl at *
  generalize m.flags.map encReg = rm at *
  generalize ma.flags.map encReg = rma at *
  generalize mb.flags.map encReg = rmb at *
  cases w1 <;> cases w2 <;> simp (maxSteps := 1000000) [spec_l08Join.l0, List.range_succ, bs_get, setAt, hi, hp1, hq1, h1, h2, h3, h4, h5, h6, h7, h8, h9, e5, e6, eg, a0, a1, a2, el, eA, eB, l8, l9, List.take_of_length_le]
set_option maxHeartbeats 8000000 in
/-- one that the first has -/
theorem sj_a (K : SjK M) (k u2 u3 : Nat) (a b : Box) (ha : BoxIn a) (hb : BoxIn b) (G : List Int) (hG : G.length ≤ 4194304) (i : Nat) (hi : i < G.length) (s : List Mail × Int) (hs : s.1.length ≤ 16777216) (hx : -1000000000 ≤ s.2 ∧ s.2 ≤ 1000000000000) (x : Nat × Nat) (c1 : ¬ G[i] ∈ a.gone) (c2 : ¬ G[i] ∈ b.gone)
    (p : Nat) (hp : mailO a.mails G[i] = some p) (hq : mailO b.mails G[i] = none) :
    ∃ y, exC (run M) k spec_l08Join.l0 (sjS u2 u3 a b G i s x) = some (.normal, sjS u2 u3 a b G (i + 1) (stepJ a b s G[i]) y) := by
  obtain ⟨v, n⟩ := x
  obtain ⟨L, nx⟩ := s
  simp only at hs hx
  have h1 := spec_l06In.says K.inn a.gone G[i] (by have := ha.g; omega)
  have h2 := spec_l06In.says K.inn b.gone G[i] (by have := hb.g; omega)
  rw [decide_eq_false c1] at h1
  rw [decide_eq_false c2] at h2
  have h3 := spec_MailAt.says K.at_ a G[i] ha.m
  have h4 := spec_MailAt.says K.at_ b G[i] hb.m
  rw [hp] at h3
  rw [hq] at h4
  obtain ⟨hp1, hp2⟩ := mailO_in_some hp
  have hq2 := mailO_in_none.1 hq
  have h5 := spec_l05Copy.says K.copy a.mails[p] (ha.f _ (List.getElem_mem hp1))
  have h6 := spec_KeepsUid.says K.keeps a b G[i] ha.m hb.m
  have h8 := spec_l08Put.says K.put L a.mails[p] hs
  have h9 := spec_l08Put.says K.put L { a.mails[p] with uid := nx } hs
  have e5 := wrap1 (i := i) (by omega)
  have e6 : IntKind.i64.wrap (nx + 1) = nx + 1 := wrap_i64 (by omega) (by omega)
  have eg := irow_length G
  have a0 : ∀ hh, (irow G)[i]'hh = [I G[i]] := by intro hh; simp [irow]
  have a1 : ∀ hh, (a.mails.map encMail)[p]'hh = encMail a.mails[p] := by intro hh; simp
  have el : (L.map encMail).length = L.length := by simp
  have eA : (a.mails.map encMail).length = a.mails.length := by simp
  have eB : (b.mails.map encMail).length = b.mails.length := by simp
  have l8 : ((insBy (fun m : Mail => m.uid) L a.mails[p]).map encMail).length = (insBy (fun m : Mail => m.uid) L a.mails[p]).length := by simp
  have l9 : ((insBy (fun m : Mail => m.uid) L { a.mails[p] with uid := nx }).map encMail).length = (insBy (fun m : Mail => m.uid) L { a.mails[p] with uid := nx }).length := by simp
  have hst : stepJ a b (L, nx) G[i] = if (!keepsUid a b G[i]) = true then (insBy (fun m : Mail => m.uid) L { a.mails[p] with uid := nx }, nx + 1) else (insBy (fun m : Mail => m.uid) L a.mails[p], nx) := by
    have e1 : needs a b G[i] = (!keepsUid a b G[i]) := by simp [needs, holds_of, hp, hq]
    have e2 : joinM a.mails b.mails G[i] = a.mails[p] := by simp [joinM, hp2, hq2]
    simp only [stepJ]
    rw [if_neg (by simp [c1, c2]), e1, e2]
  rw [hst]
  clear hst hp hq hp2 hq2 c1 c2
  simp only [Prod.exists, sjS, sjO]
  simp only [encBox, mails, ints, intO, encMail, encMailO, regs] at *
  generalize keepsUid a b G[i] = w1 at *
  generalize a.mails[p] = m at *
  generalize insBy (fun m : Mail => m.uid) L { m with uid := nx } = L9 at *
  generalize insBy (fun m : Mail => m.uid) L m = L8 at *
  generalize G[i] = g at *
  generalize irow G = rg at *
  generalize irow a.gone = ga at *
  generalize irow b.gone = gb at *
  generalize a.mails.map encMail = ra at *
  generalize b.mails.map encMail = rb at *
  generalize L.map encMail = rl at *
  generalize m.flags.map encReg = rm at *
  cases w1 <;> simp (maxSteps := 1000000) [spec_l08Join.l0, List.range_succ, bs_get, setAt, hi, hp1, h1, h2, h3, h4, h5, h6, h8, h9, e5, e6, eg, a0, a1, el, eA, eB, l8, l9, List.take_of_length_le]
set_option maxHeartbeats 8000000 in
/-- one that the second alone has -/
theorem sj_b (K : SjK M) (k u2 u3 : Nat) (a b : Box) (ha : BoxIn a) (hb : BoxIn b) (G : List Int) (hG : G.length ≤ 4194304) (i : Nat) (hi : i < G.length) (s : List Mail × Int) (hs : s.1.length ≤ 16777216) (hx : -1000000000 ≤ s.2 ∧ s.2 ≤ 1000000000000) (x : Nat × Nat) (c1 : ¬ G[i] ∈ a.gone) (c2 : ¬ G[i] ∈ b.gone)
    (q : Nat) (hp : mailO a.mails G[i] = none) (hq : mailO b.mails G[i] = some q) :
    ∃ y, exC (run M) k spec_l08Join.l0 (sjS u2 u3 a b G i s x) = some (.normal, sjS u2 u3 a b G (i + 1) (stepJ a b s G[i]) y) := by
  obtain ⟨v, n⟩ := x
  obtain ⟨L, nx⟩ := s
  simp only at hs hx
  have h1 := spec_l06In.says K.inn a.gone G[i] (by have := ha.g; omega)
  have h2 := spec_l06In.says K.inn b.gone G[i] (by have := hb.g; omega)
  rw [decide_eq_false c1] at h1
  rw [decide_eq_false c2] at h2
  have h3 := spec_MailAt.says K.at_ a G[i] ha.m
  have h4 := spec_MailAt.says K.at_ b G[i] hb.m
  rw [hp] at h3
  rw [hq] at h4
  have hp2 := mailO_in_none.1 hp
  obtain ⟨hq1, hq2⟩ := mailO_in_some hq
  have h5 := spec_l05Copy.says K.copy b.mails[q] (hb.f _ (List.getElem_mem hq1))
  have h7 := spec_KeepsUid.says K.keeps b a G[i] hb.m ha.m
  have h8 := spec_l08Put.says K.put L b.mails[q] hs
  have h9 := spec_l08Put.says K.put L { b.mails[q] with uid := nx } hs
  have e5 := wrap1 (i := i) (by omega)
  have e6 : IntKind.i64.wrap (nx + 1) = nx + 1 := wrap_i64 (by omega) (by omega)
  have eg := irow_length G
  have a0 : ∀ hh, (irow G)[i]'hh = [I G[i]] := by intro hh; simp [irow]
  have a2 : ∀ hh, (b.mails.map encMail)[q]'hh = encMail b.mails[q] := by intro hh; simp
  have el : (L.map encMail).length = L.length := by simp
  have eA : (a.mails.map encMail).length = a.mails.length := by simp
  have eB : (b.mails.map encMail).length = b.mails.length := by simp
  have l8 : ((insBy (fun m : Mail => m.uid) L b.mails[q]).map encMail).length = (insBy (fun m : Mail => m.uid) L b.mails[q]).length := by simp
  have l9 : ((insBy (fun m : Mail => m.uid) L { b.mails[q] with uid := nx }).map encMail).length = (insBy (fun m : Mail => m.uid) L { b.mails[q] with uid := nx }).length := by simp
  have hst : stepJ a b (L, nx) G[i] = if (!keepsUid b a G[i]) = true then (insBy (fun m : Mail => m.uid) L { b.mails[q] with uid := nx }, nx + 1) else (insBy (fun m : Mail => m.uid) L b.mails[q], nx) := by
    have e1 : needs a b G[i] = (!keepsUid b a G[i]) := by simp [needs, holds_of, hp, hq]
    have e2 : joinM a.mails b.mails G[i] = b.mails[q] := by simp [joinM, hp2, hq2]
    simp only [stepJ]
    rw [if_neg (by simp [c1, c2]), e1, e2]
  rw [hst]
  clear hst hp hq hp2 hq2 c1 c2
  simp only [Prod.exists, sjS, sjO]
  simp only [encBox, mails, ints, intO, encMail, encMailO, regs] at *
  generalize keepsUid b a G[i] = w2 at *
  generalize b.mails[q] = m at *
  generalize insBy (fun m : Mail => m.uid) L { m with uid := nx } = L9 at *
  generalize insBy (fun m : Mail => m.uid) L m = L8 at *
  generalize G[i] = g at *
  generalize irow G = rg at *
  generalize irow a.gone = ga at *
  generalize irow b.gone = gb at *
  generalize a.mails.map encMail = ra at *
  generalize b.mails.map encMail = rb at *
  generalize L.map encMail = rl at *
  generalize m.flags.map encReg = rm at *
  cases w2 <;> simp (maxSteps := 1000000) [spec_l08Join.l0, List.range_succ, bs_get, setAt, hi, hq1, h1, h2, h3, h4, h5, h7, h8, h9, e5, e6, eg, a0, a2, el, eA, eB, l8, l9, List.take_of_length_le]
theorem stepJ_len (a b : Box) (s : List Mail × Int) (g : Int) : (stepJ a b s g).1.length ≤ s.1.length + 1 ∧ s.2 ≤ (stepJ a b s g).2 ∧ (stepJ a b s g).2 ≤ s.2 + 1 := by
  have h : ∀ (L : List Mail) (m : Mail), (insBy (fun m : Mail => m.uid) L m).length = L.length + 1 := fun L m => by
    have := (insBy_perm (k := fun m : Mail => m.uid) L m).length_eq
    simpa using this
  unfold stepJ
  split
  · omega
  · split
    · simp only [h]; omega
    · simp only [h]; omega
set_option maxHeartbeats 1000000 in
theorem spec_l08Join.says (h : spec_l08Join.k M) (a b : Box) (ha : BoxIn a) (hb : BoxIn b) (hna : -1000000000 ≤ a.next ∧ a.next ≤ 1000000000) (hnb : -1000000000 ≤ b.next ∧ b.next ≤ 1000000000) :
    run M 439 [.a (encBox a), .a (encBox b)] [] = some (.tup [.c (.sl true 4 ((joinedS a b).1.map encMail)), .c (I (joinedS a b).2)], []) := by
  obtain ⟨h0, kk, ka, ki, kc, kn, kg, kj, kp⟩ := h
  have K : SjK M := ⟨kk, ka, ki, kc, kj, kp⟩
  have h1 := spec_l08Next.says kn a b
  have h2 := spec_l08Gids.says kg a b ha.m hb.m
  have hG : (joinGone (gids a.mails) (gids b.mails)).length ≤ 4194304 := by
    have := joinGone_le (gids a.mails) (gids b.mails)
    have e1 : (gids a.mails).length = a.mails.length := by simp [gids]
    have e2 : (gids b.mails).length = b.mails.length := by simp [gids]
    have := ha.m
    have := hb.m
    omega
  have hmem : ∀ g ∈ joinGone (gids a.mails) (gids b.mails), g ∈ gids a.mails ∨ g ∈ gids b.mails := fun g hg => (joinGone_mem _ _ _).1 hg
  have hJ : joinedS a b = (joinGone (gids a.mails) (gids b.mails)).foldl (stepJ a b) ([], Max.max a.next b.next) := rfl
  rw [hJ]
  have eg := irow_length (joinGone (gids a.mails) (gids b.mails))
  clear hJ
  generalize joinGone (gids a.mails) (gids b.mails) = G at *
  generalize hmx : Max.max a.next b.next = mx at *
  refine run_code (b := spec_l08Join.m) h0 ⟨G.length + 1, ?_⟩
  obtain ⟨g, hr⟩ := fold_loop (f := exC (run M) (G.length + 1) spec_l08Join.l0) G (stepJ a b) (fun i s => s.1.length ≤ i ∧ mx ≤ s.2 ∧ s.2 ≤ mx + i) (sjS 2000000 2000016 a b G) 0 (sjE 2000000 2000016 a b G)
    (fun i hi s hs => by have := stepJ_len a b s G[i]; omega)
    (fun i hi s x hs => by
      by_cases c1 : G[i] ∈ a.gone
      · have e : stepJ a b s G[i] = s := by unfold stepJ; rw [if_pos (.inl c1)]
        rw [e]
        exact sj_gone K _ _ _ a b ha hb G hG i hi s x (.inl c1)
      by_cases c2 : G[i] ∈ b.gone
      · have e : stepJ a b s G[i] = s := by unfold stepJ; rw [if_pos (.inr c2)]
        rw [e]
        exact sj_gone K _ _ _ a b ha hb G hG i hi s x (.inr c2)
      cases hp : mailO a.mails G[i] with
      | some p =>
        cases hq : mailO b.mails G[i] with
        | some q => exact sj_both K _ _ _ a b ha hb G hG i hi s (by omega) (by omega) x c1 c2 p q hp hq
        | none => exact sj_a K _ _ _ a b ha hb G hG i hi s (by omega) (by omega) x c1 c2 p hp hq
      | none =>
        cases hq : mailO b.mails G[i] with
        | some q => exact sj_b K _ _ _ a b ha hb G hG i hi s (by omega) (by omega) x c1 c2 q hp hq
        | none =>
          exfalso
          rcases hmem _ (List.getElem_mem hi) with z | z
          · obtain ⟨m, hm, e⟩ := List.mem_map.1 z; exact mailO_none.1 hp m hm e
          · obtain ⟨m, hm, e⟩ := List.mem_map.1 z; exact mailO_none.1 hq m hm e)
    (fun s x hs => sj_end _ _ _ a b G s x) ([], mx) ⟨by simp, by simp, by simp⟩
  have hr0 := hr (2000128, 2000240)
  generalize g (2000128, 2000240) = y at *
  obtain ⟨v, n⟩ := y
  have el : ((G.foldl (stepJ a b) ([], mx)).1.map encMail).length = (G.foldl (stepJ a b) ([], mx)).1.length := by simp
  generalize G.foldl (stepJ a b) ([], mx) = R at *
  obtain ⟨L, nx⟩ := R
  have ez : ((0 : Nat) : Int) = 0 := rfl
  simp only [sjS, sjE, sjO, ez, List.map_nil, List.length_nil] at hr0
  simp only at el ⊢
  simp only [encBox, mails, ints] at *
  generalize irow G = rg at *
  generalize irow a.gone = ga at *
  generalize irow b.gone = gb at *
  generalize a.mails.map encMail = ra at *
  generalize b.mails.map encMail = rb at *
  generalize L.map encMail = rl at *
  simp (maxSteps := 1000000) [exB, spec_l08Join.m, spec_l08Join.b, List.range_succ, bs_get, setAt, hr0, h1, h2, eg, el, List.take_of_length_le]
end Mx

namespace Mx
open Go
variable {M : Nat → Option Body}
theorem later_eq (t w u x : Int) (p : Prop) : (later u x t w = true ∨ later t w u x = false ∧ p) ↔ (later u x t w = true ∨ (t = u ∧ w = x) ∧ p) := by
  simp only [later_iff, later_not]
  by_cases hp : p
  · simp only [hp, and_true]; omega
  · simp only [hp, and_false, or_false]
theorem joinBox_spec (a b : Box) : joinBox a b = if a.gid = b.gid then
    { gid := a.gid, name := if later b.time b.who a.time a.who = true ∨ (a.time = b.time ∧ a.who = b.who) ∧ bless a.name b.name = true then b.name else a.name,
      time := if later b.time b.who a.time a.who = true ∨ (a.time = b.time ∧ a.who = b.who) ∧ bless a.name b.name = true then b.time else a.time,
      who := if later b.time b.who a.time a.who = true ∨ (a.time = b.time ∧ a.who = b.who) ∧ bless a.name b.name = true then b.who else a.who,
      next := (joinedS a b).2, mails := (joinedS a b).1, gone := joinGone a.gone b.gone } else a := by
  unfold joinBox
  simp only [later_eq a.time a.who b.time b.who]
set_option maxHeartbeats 4000000 in
theorem spec_JoinBox.says (h : spec_JoinBox.k M) (a b : Box) (H : Joins a b) : run M 405 [.a (encBox a), .a (encBox b)] [] = some (.a (encBoxO (joinBox a b)), []) := by
  obtain ⟨h0, kg, kc, kl, kj⟩ := h
  have h1 := spec_l06Copy.says kc a H.ia
  have h2 := spec_JoinGone.says kg a.gone b.gone H.ia.g H.ib.g
  have h3 := spec_Later.says kl b.time b.who a.time a.who
  have h5 := spec_l08Join.says kj a b H.ia H.ib H.xa H.xb
  have e1 : (joinGone a.gone b.gone).length ≤ 4194304 := by
    have := joinGone_le a.gone b.gone
    have := H.ia.g
    have := H.ib.g
    omega
  have e2 := irow_length (joinGone a.gone b.gone)
  have e3 : ((joinedS a b).1.map encMail).length = (joinedS a b).1.length := by simp
  have e4 : (a.mails.map encMail).length = a.mails.length := by simp
  have e5 := irow_length a.gone
  have e6 := bless_gtr a.name b.name
  refine run_code (b := spec_JoinBox.m) h0 ⟨0, ?_⟩
  rw [joinBox_spec]
  by_cases c : a.gid = b.gid
  · rw [if_pos c]
    simp only [encBox, encBoxO, mails, ints] at *
    rw [c] at h5
    generalize hx : later b.time b.who a.time a.who = x at *
    generalize hw : bless a.name b.name = w at *
    generalize (joinedS a b).1.map encMail = rj at *
    generalize (joinedS a b).1.length = nj at *
    generalize (joinedS a b).2 = xj at *
    generalize irow (joinGone a.gone b.gone) = gj at *
    generalize a.mails.map encMail = ra at *
    generalize b.mails.map encMail = rb at *
    generalize irow a.gone = ga at *
    generalize irow b.gone = gb at *
    clear hx hw
    obtain ⟨ag, an, at', aw, anx, am, ago⟩ := a
    obtain ⟨bg, bn, bt, bw, bnx, bm, bgo⟩ := b
    simp only at *
    cases x
    · by_cases c2 : at' = bt
      · subst c2
        by_cases c3 : aw = bw
        · subst c3
          cases w <;> simp (maxSteps := 1000000) [exB, spec_JoinBox.m, spec_JoinBox.b, List.range_succ, bs_get, setAt, h2, h3, h5, c, e1, e2, e3, e6, List.take_of_length_le]
        · simp (maxSteps := 1000000) [exB, spec_JoinBox.m, spec_JoinBox.b, List.range_succ, bs_get, setAt, h2, h3, h5, c, c3, e1, e2, e3, e6, List.take_of_length_le]
      · simp (maxSteps := 1000000) [exB, spec_JoinBox.m, spec_JoinBox.b, List.range_succ, bs_get, setAt, h2, h3, h5, c, c2, e1, e2, e3, e6, List.take_of_length_le]
    · simp (maxSteps := 1000000) [exB, spec_JoinBox.m, spec_JoinBox.b, List.range_succ, bs_get, setAt, h2, h3, h5, c, e1, e2, e3, e6, List.take_of_length_le]
  · rw [if_neg c]
    simp only [encBox, encBoxO, mails, ints] at *
    generalize a.mails.map encMail = ra at *
    generalize b.mails.map encMail = rb at *
    generalize irow a.gone = ga at *
    generalize irow b.gone = gb at *
    simp (maxSteps := 1000000) [exB, spec_JoinBox.m, spec_JoinBox.b, List.range_succ, bs_get, setAt, h1, c, e4, e5, List.take_of_length_le]
end Mx

namespace Mx
open Go
variable {M : Nat → Option Body}
deriving instance DecidableEq for Reg
deriving instance DecidableEq for Mail
deriving instance DecidableEq for Box
/-- two lists of one length, element by element -/
theorem eq_loop {α : Type} [DecidableEq α] (la lb : List α) (hl : la.length = lb.length) {f : St → Option (Out × St)} {β : Type} (S : Nat → β → St) (c e : Nat) (E : β → St)
    (h1 : ∀ i (h : i < la.length) (h' : i < lb.length) x, la[i] = lb[i] → ∃ y, f (S i x) = some (.normal, S (i + 1) y))
    (h2 : ∀ i (h : i < la.length) (h' : i < lb.length) x, ¬ la[i] = lb[i] → ∃ n, f (S i x) = some (.ret, { t := [(c, .c (.bool false))], o := [], n := n }))
    (h3 : ∀ x, ∃ y, f (S la.length x) = some (.exit e, E y)) :
    ∃ g : β → β × Nat, ∀ x, loopN f (la.length + 1) (S 0 x) = some (if la = lb then (.exit e, E (g x).1) else (.ret, { t := [(c, .c (.bool false))], o := [], n := (g x).2 })) := by
  have key := loop_all (f := f) S (fun i => i ≤ la.length) (fun i => la.length - i) (fun i => decide (la.drop i = lb.drop i))
    (fun q (m : β × Nat) => if q = true then (.exit e, E m.1) else (.ret, { t := [(c, .c (.bool false))], o := [], n := m.2 })) (by
      intro i x hi
      by_cases hlt : i < la.length
      · have hlt' : i < lb.length := by omega
        have hd : (la.drop i = lb.drop i) ↔ (la[i] = lb[i] ∧ la.drop (i + 1) = lb.drop (i + 1)) := by
          rw [List.drop_eq_getElem_cons hlt, List.drop_eq_getElem_cons hlt', List.cons.injEq]
        by_cases c' : la[i] = lb[i]
        · obtain ⟨y, hy⟩ := h1 i hlt hlt' x c'
          exact .inl ⟨i + 1, y, hy, hlt, by omega, by rw [decide_eq_decide, hd]; simp [c']⟩
        · obtain ⟨n, hn⟩ := h2 i hlt hlt' x c'
          have hf : decide (la.drop i = lb.drop i) = false := decide_eq_false fun q => c' (hd.1 q).1
          exact .inr ⟨(x, n), by rw [hn, hf]; simp, by rw [hf]; simp⟩
      · have : i = la.length := by omega
        subst this
        obtain ⟨y, hy⟩ := h3 x
        have hd : lb.drop la.length = [] := List.drop_eq_nil_of_le (by omega)
        exact .inr ⟨(y, 0), by rw [hy]; simp [hd], by simp [hd]⟩) (la.length + 1) 0 (Nat.zero_le _) (by omega)
  obtain ⟨g, hg⟩ := key
  refine ⟨g, fun x => ?_⟩
  rw [hg x]
  simp only [List.drop_zero, decide_eq_true_eq]
theorem reg_ext {x y : Reg} (h1 : x.val = y.val) (h2 : x.time = y.time) (h3 : x.who = y.who) : x = y := by
  cases x; cases y; simp_all
theorem mail_ext {x y : Mail} (h1 : x.gid = y.gid) (h2 : x.uid = y.uid) (h3 : x.flags = y.flags) (h4 : x.text = y.text) : x = y := by
  cases x; cases y; simp_all
theorem box_ext {x y : Box} (h1 : x.gid = y.gid) (h2 : x.name = y.name) (h3 : x.time = y.time) (h3' : x.who = y.who) (h4 : x.next = y.next) (h5 : x.mails = y.mails) (h6 : x.gone = y.gone) : x = y := by
  cases x; cases y; simp_all
def smS (a b : Mail) (i : Nat) (x : Nat × Nat × Nat) : St := { t := [(2, .c (.ptr 2 x.1 0 0)), (3, .c (.ptr 3 x.2.1 0 0)), (5, .c (I i))], o := [(2, ⟨x.1, 4, true, true, [encMail a]⟩), (3, ⟨x.2.1, 4, true, true, [encMail b]⟩)], n := x.2.2 }
def smE (a b : Mail) (x : Nat × Nat × Nat) : St := { t := [(2, .c (.ptr 2 x.1 0 0)), (3, .c (.ptr 3 x.2.1 0 0)), (5, .c (I a.flags.length)), (38, .c (.bool false))], o := [(2, ⟨x.1, 4, true, true, [encMail a]⟩), (3, ⟨x.2.1, 4, true, true, [encMail b]⟩)], n := x.2.2 }
theorem spec_SameMail.says (h : spec_SameMail.k M) (a b : Mail) (ha : a.flags.length ≤ 1048576) : run M 159 [.a (encMail a), .a (encMail b)] [] = some (.c (.bool (decide (a = b))), []) := by
  refine run_code (b := spec_SameMail.m) h ⟨a.flags.length + 1, ?_⟩
  by_cases c1 : a.gid = b.gid
  rotate_left
  · have hne : ¬ a = b := fun q => c1 (by rw [q])
    simp [exB, spec_SameMail.m, spec_SameMail.b, List.range_succ, c1, hne]
  by_cases c2 : a.uid = b.uid
  rotate_left
  · have hne : ¬ a = b := fun q => c2 (by rw [q])
    simp [exB, spec_SameMail.m, spec_SameMail.b, List.range_succ, c1, c2, hne]
  by_cases c3 : a.text = b.text
  rotate_left
  · have hne : ¬ a = b := fun q => c3 (by rw [q])
    simp [exB, spec_SameMail.m, spec_SameMail.b, List.range_succ, c1, c2, c3, hne]
  by_cases c4 : a.flags.length = b.flags.length
  rotate_left
  · have hne : ¬ a = b := fun q => c4 (by rw [q])
    have c4' : ¬ (a.flags.length : Int) = b.flags.length := by omega
    simp [exB, spec_SameMail.m, spec_SameMail.b, List.range_succ, c1, c2, c3, c4, c4', hne]
  obtain ⟨g, hr⟩ := eq_loop a.flags b.flags c4 (f := exC (run M) (a.flags.length + 1) spec_SameMail.l0) (smS a b) 4 0 (smE a b)
    (fun i hi hi' x c => by
      obtain ⟨v, w, x⟩ := x
      have e5 := wrap1 (i := i) (by omega)
      simp only [Prod.exists]
      simp [smS, spec_SameMail.l0, hi, hi', e5, encReg, eqL, eqT, c])
    (fun i hi hi' x c => by
      obtain ⟨v, w, x⟩ := x
      by_cases q1 : a.flags[i].val = b.flags[i].val <;> by_cases q2 : a.flags[i].time = b.flags[i].time <;> by_cases q3 : a.flags[i].who = b.flags[i].who <;>
        first
        | exact absurd (reg_ext q1 q2 q3) c
        | simp [smS, spec_SameMail.l0, hi, hi', encReg, eqL, eqT, q1, q2, q3])
    (fun x => by
      obtain ⟨v, w, x⟩ := x
      simp only [Prod.exists]
      simp [smS, smE, spec_SameMail.l0])
  by_cases c5 : a.flags = b.flags
  · have he : a = b := mail_ext c1 c2 c5 c3
    simp only [c5, if_true] at hr
    simp [smS, smE, encMail, ← c5] at hr
    subst he
    simp [exB, spec_SameMail.m, spec_SameMail.b, List.range_succ, hr]
  · have hne : ¬ a = b := fun q => c5 (by rw [q])
    simp only [c5, if_false] at hr
    simp [smS, smE, encMail, c1, c2, c3, c4] at hr
    simp [exB, spec_SameMail.m, spec_SameMail.b, List.range_succ, encMail, c1, c2, c3, c4, hr, hne]
def seS (a b : List Reg) (i : Nat) (x : Nat) : St := { t := [(0, .c (regs a)), (1, .c (regs b)), (12, .c (I a.length)), (13, .c (I i))], o := [], n := x }
def seE (a b : List Reg) (x : Nat) : St := { t := [(0, .c (regs a)), (1, .c (regs b)), (12, .c (I a.length)), (13, .c (I a.length)), (14, .c (.bool false))], o := [], n := x }
theorem slices_Equal_impl_Reg_impl_Reg.says (h : slices_Equal_impl_Reg_impl_Reg.k M) (a b : List Reg) (ha : a.length ≤ 1048576) : run M 253 [.c (regs a), .c (regs b)] [] = some (.c (.bool (decide (a = b))), []) := by
  refine run_code (b := slices_Equal_impl_Reg_impl_Reg.m) h ⟨a.length + 1, ?_⟩
  by_cases c4 : a.length = b.length
  rotate_left
  · have hne : ¬ a = b := fun q => c4 (by rw [q])
    have c4' : ¬ (a.length : Int) = b.length := by omega
    simp [exB, slices_Equal_impl_Reg_impl_Reg.m, slices_Equal_impl_Reg_impl_Reg.b, List.range_succ, c4, c4', hne]
  obtain ⟨g, hr⟩ := eq_loop a b c4 (f := exC (run M) (a.length + 1) slices_Equal_impl_Reg_impl_Reg.l0) (seS a b) 4 0 (seE a b)
    (fun i hi hi' x c => by
      have e5 := wrap1 (i := i) (by omega)
      simp [seS, slices_Equal_impl_Reg_impl_Reg.l0, hi, hi', e5, encReg, eqL, eqT, c])
    (fun i hi hi' x c => by
      by_cases q1 : a[i].val = b[i].val <;> by_cases q2 : a[i].time = b[i].time <;> by_cases q3 : a[i].who = b[i].who <;>
        first
        | exact absurd (reg_ext q1 q2 q3) c
        | simp [seS, slices_Equal_impl_Reg_impl_Reg.l0, hi, hi', encReg, eqL, eqT, q1, q2, q3])
    (fun x => by simp [seS, seE, slices_Equal_impl_Reg_impl_Reg.l0])
  by_cases c5 : a = b
  · subst c5
    simp [seS, seE] at hr
    simp [exB, slices_Equal_impl_Reg_impl_Reg.m, slices_Equal_impl_Reg_impl_Reg.b, List.range_succ, hr]
  · simp [seS, seE, c5] at hr
    simp only [c4] at hr
    simp [exB, slices_Equal_impl_Reg_impl_Reg.m, slices_Equal_impl_Reg_impl_Reg.b, List.range_succ, hr, c4, c5]
def alsS (a b : List Int) (i : Nat) (x : Nat) : St := { t := [(0, .c (ints a)), (1, .c (ints b)), (12, .c (I a.length)), (13, .c (I i))], o := [], n := x }
def alsE (a b : List Int) (x : Nat) : St := { t := [(0, .c (ints a)), (1, .c (ints b)), (12, .c (I a.length)), (13, .c (I a.length)), (14, .c (.bool false))], o := [], n := x }
theorem slices_Equal_int_int.says (h : slices_Equal_int_int.k M) (a b : List Int) (ha : a.length ≤ 1048576) : run M 120 [.c (ints a), .c (ints b)] [] = some (.c (.bool (decide (a = b))), []) := by
  refine run_code (b := slices_Equal_int_int.m) h ⟨a.length + 1, ?_⟩
  by_cases c4 : a.length = b.length
  rotate_left
  · have hne : ¬ a = b := fun q => c4 (by rw [q])
    have c4' : ¬ (a.length : Int) = b.length := by omega
    simp [exB, slices_Equal_int_int.m, slices_Equal_int_int.b, List.range_succ, c4, c4', hne]
  obtain ⟨g, hr⟩ := eq_loop a b c4 (f := exC (run M) (a.length + 1) slices_Equal_int_int.l0) (alsS a b) 4 0 (alsE a b)
    (fun i hi hi' x c => by
      have e5 := wrap1 (i := i) (by omega)
      simp [alsS, slices_Equal_int_int.l0, hi, hi', e5, c])
    (fun i hi hi' x c => by simp [alsS, slices_Equal_int_int.l0, hi, hi', c])
    (fun x => by simp [alsS, alsE, slices_Equal_int_int.l0])
  by_cases c5 : a = b
  · subst c5
    simp [alsS, alsE] at hr
    simp [exB, slices_Equal_int_int.m, slices_Equal_int_int.b, List.range_succ, hr]
  · simp [alsS, alsE, c5] at hr
    simp only [c4] at hr
    simp [exB, slices_Equal_int_int.m, slices_Equal_int_int.b, List.range_succ, hr, c4, c5]
theorem impl_SameMail.says (h : impl_SameMail.k M) (a b : Mail) (ha : a.flags.length ≤ 1048576) : run M 212 [.a (encMail a), .a (encMail b)] [] = some (.c (.bool (decide (a = b))), []) := by
  have h1 := slices_Equal_impl_Reg_impl_Reg.says h.2 a.flags b.flags ha
  refine run_code (b := impl_SameMail.m) h.1 ⟨0, ?_⟩
  by_cases c1 : a.gid = b.gid
  rotate_left
  · have hne : ¬ a = b := fun q => c1 (by rw [q])
    simp [exB, impl_SameMail.m, impl_SameMail.b, List.range_succ, c1, hne]
  by_cases c2 : a.uid = b.uid
  rotate_left
  · have hne : ¬ a = b := fun q => c2 (by rw [q])
    simp [exB, impl_SameMail.m, impl_SameMail.b, List.range_succ, c1, c2, hne]
  by_cases c5 : a.flags = b.flags
  rotate_left
  · have hne : ¬ a = b := fun q => c5 (by rw [q])
    simp only [c5, decide_false] at h1
    simp [exB, impl_SameMail.m, impl_SameMail.b, List.range_succ, c1, c2, h1, hne]
  simp only [c5, decide_true] at h1
  by_cases c3 : a.text = b.text
  · have he : a = b := mail_ext c1 c2 c5 c3
    subst he
    simp [exB, impl_SameMail.m, impl_SameMail.b, List.range_succ, h1]
  · have hne : ¬ a = b := fun q => c3 (by rw [q])
    simp [exB, impl_SameMail.m, impl_SameMail.b, List.range_succ, c1, c2, c3, c5, h1, hne]
end Mx

namespace Mx
open Go
variable {M : Nat → Option Body}
theorem laws_big.says (h : laws_big.k M) (R : List (List T)) (hl : R.length ≤ 9223372036854775807) : run M 36 [.c (.sl false 1 R)] [] = some (.c (.bool (decide (1048576 < R.length))), []) := by
  refine run_code (b := laws_big.m) h ⟨0, ?_⟩
  simp (maxSteps := 1000000) [exB, laws_big.m, laws_big.b, List.range_succ, bs_get, setAt]
  omega
end Mx

namespace Mx
open Go
variable {M : Nat → Option Body}
theorem allM_self (l : List Mail) : (allM l l).length = l.length := by
  have h : (l.filter fun m => (mailIn l m.gid).isNone) = [] := List.filter_eq_nil_iff.2 fun m hm c => by
    rw [Option.isNone_iff_eq_none] at c
    exact mailIn_none.1 c m hm rfl
  simp only [allM, List.length_append, List.length_map, h, List.length_nil, Nat.add_zero]
theorem joined_next_le {a b : Box} (ha : (gids a.mails).Nodup) (hb : (gids b.mails).Nodup) : (joinedS a b).2 ≤ Max.max a.next b.next + (a.mails.length + b.mails.length : Nat) := by
  rw [← joined_eq ha hb]
  simp only [joinedI]
  have h1 := (assignU_next (needs a b) (sortBy (·.gid) ((allM a.mails b.mails).filter fun m => !decide (m.gid ∈ joinGone a.gone b.gone))) (Max.max a.next b.next)).2
  rw [sortBy_len] at h1
  have h2 := List.length_filter_le (fun m : Mail => !decide (m.gid ∈ joinGone a.gone b.gone)) (allM a.mails b.mails)
  have h3 := allM_le a.mails b.mails
  omega
theorem joined_nodup {a b : Box} (ha : (gids a.mails).Nodup) (hb : (gids b.mails).Nodup) : (gids (joinedS a b).1).Nodup :=
  (joinedS_gids ha hb).nodup_iff.2 (by
    have := (joinGone_asc (gids a.mails) (gids b.mails)).filter (fun g => !decide (g ∈ joinGone a.gone b.gone))
    exact this.imp fun h => by omega)
theorem again_joins {a b : Box} (ha : Good a) (hb : Good b) : Joins (joinBox a b) (joinBox a b) := by
  have H := ha.joins hb
  have hin := joinBox_in H
  have h1 : (joinBox a b).gone.length ≤ 500000 := by
    unfold joinBox; split
    · have := joinGone_le a.gone b.gone; have := ha.goneL; have := hb.goneL; simp only; omega
    · exact H.ga
  have h2 : (gids (joinBox a b).mails).Nodup := by
    unfold joinBox; split
    · exact joined_nodup ha.nd hb.nd
    · exact ha.nd
  have h3 : (joinBox a b).mails.length ≤ 20 := by
    unfold joinBox; split
    · exact joined_count H
    · have := ha.len; omega
  have h4 : -1000000000 ≤ (joinBox a b).next ∧ (joinBox a b).next ≤ 1000000000 := by
    have q1 := joined_next_le ha.nd hb.nd
    have q2 := joined_next ha.nd hb.nd
    have := ha.next
    have := hb.next
    have := ha.len
    have := hb.len
    unfold joinBox; split
    · simp only; omega
    · omega
  exact ⟨hin, hin, h1, h1, h2, h2, by rw [allM_self]; exact h3, h4, h4⟩
end Mx

namespace Mx
open Go
variable {M : Nat → Option Body}
def firstB (a b : List Box) : List Box := a.map fun x => match boxIn b x.gid with | some y => joinBox x y | none => x
theorem firstB_len (a b : List Box) : (firstB a b).length = a.length := by simp [firstB]
def allB (a b : List Box) : List Box := firstB a b ++ b.filter fun x => (boxIn a x.gid).isNone
def renStep (acc : List Box) (x : Box) : List Box := acc ++ [if (acc.any fun y => decide (y.name = x.name)) = true then { x with name := otherName x.name x.gid } else x]
def ren (l : List Box) : List Box := l.foldl renStep []
def joinBoxesI (a b : List Box) (G : List Int) : List Box := ren (sortBy (·.gid) ((allB a b).filter fun x => !decide (x.gid ∈ G)))
structure GoodL (l : List Box) : Prop where
  len : l.length ≤ 5
  good : ∀ b ∈ l, Good b
structure JsS where
  i : Nat
  v : Nat
  n : Nat
def jsO (u5 : Nat) (G : List Int) (v : Nat) (rows : List (List T)) : List (Nat × Ob) := [(5, ⟨u5, 1, true, true, [[ints G]]⟩), (16, ⟨v, 7, true, false, rows⟩)]
def jpS (u5 : Nat) (a b : List Box) (G : List Int) (s : JsS) : St := { t := [(0, .c (boxes a)), (1, .c (boxes b)), (5, .c (.ptr 5 u5 0 0)), (7, .c (.row 16 s.v 0 s.i)), (8, .c (.fn 476 [])), (17, .c (boxes a)), (18, .c (I a.length)), (19, .c (I s.i))], o := jsO u5 G s.v (((firstB a b).take s.i).map encBox), n := s.n }
def jpE (u5 : Nat) (a b : List Box) (G : List Int) (s : JsS) : St := { t := [(0, .c (boxes a)), (1, .c (boxes b)), (5, .c (.ptr 5 u5 0 0)), (7, .c (.row 16 s.v 0 s.i)), (8, .c (.fn 476 [])), (17, .c (boxes a)), (18, .c (I a.length)), (19, .c (I s.i)), (20, .c (.bool false))], o := jsO u5 G s.v (((firstB a b).take s.i).map encBox), n := s.n }
structure JsK (M : Nat → Option Body) : Prop where
  copy : impl_copyBox.k M
  join : impl_JoinBox.k M
  at_ : impl_JoinBoxes_1.k M
  del : slices_DeleteFunc_impl_Box_impl_Box.k M
  c2 : impl_JoinBoxes_2.k M
  sort : slices_SortStableFunc_impl_Box_impl_Box.k M
  c3 : impl_JoinBoxes_3.k M
  has : slices_ContainsFunc_impl_Box_impl_Box.k M
  c4 : impl_JoinBoxes_4.k M
  name : impl_OtherName.k M
set_option maxHeartbeats 1000000 in
theorem jp_turn (K : JsK M) (k u5 : Nat) (a b : List Box) (G : List Int) (ha : GoodL a) (hb : GoodL b) (s : JsS) (hs : s.i < a.length) :
    ∃ v' n', exC (run M) k impl_JoinBoxes.l0 (jpS u5 a b G s) = some (.normal, jpS u5 a b G ⟨s.i + 1, v', n'⟩) := by
  obtain ⟨i, v, n⟩ := s
  simp only at hs
  have hla := ha.len
  have hlb := hb.len
  have gx := ha.good _ (List.getElem_mem hs)
  have h1 := impl_JoinBoxes_1.says K.at_ b a[i].gid (by omega)
  have e5 := wrap1 (i := i) (by omega)
  have e6 : i + 1 ≤ 4294967296 := by omega
  have hl := firstB_len a b
  have e7 : (((firstB a b).take i).map encBox).length = i := by simp [hl]; omega
  have e9 : (a.map encBox).length = a.length := by simp
  have e8 : ((firstB a b).take (i + 1)).map encBox = ((firstB a b).take i).map encBox ++ [encBox (firstB a b)[i]] := by
    rw [take_snoc _ _ (by rw [hl]; exact hs), List.map_append]; rfl
  have a1 : ∀ hh, (a.map encBox)[i]'hh = encBox a[i] := by intro hh; simp
  cases hq : boxO b a[i].gid with
  | none =>
    rw [hq] at h1
    have h2 := impl_copyBox.says K.copy a[i] gx.inB
    have ef : (firstB a b)[i]'(by rw [hl]; exact hs) = a[i] := by
      simp only [firstB, List.getElem_map, boxO_none hq]
    rw [ef] at e8
    simp only [jpS, jsO, e8]
    simp only [encBox, encBoxO, boxes, mails, ints, intO] at h1 h2 a1 ⊢
    generalize List.map encBox ((firstB a b).take i) = rr at *
    generalize a.map encBox = ra at *
    generalize b.map encBox = rb at *
    generalize a[i].mails.map encMail = rm at *
    generalize irow a[i].gone = rg at *
    generalize irow G = gj at *
    simp (maxSteps := 1000000) [impl_JoinBoxes.l0, List.range_succ, bs_get, setAt, h1, h2, hs, e5, e6, e7, e9, a1, List.take_of_length_le]
  | some q =>
    rw [hq] at h1
    obtain ⟨hq1, hq2⟩ := boxO_some hq
    have gy := hb.good _ (List.getElem_mem hq1)
    have h3 := impl_JoinBox.says K.join a[i] b[q] (gx.joins gy)
    have h2 := impl_copyBox.says K.copy (joinBox a[i] b[q]) (joinBox_in (gx.joins gy))
    have ef : (firstB a b)[i]'(by rw [hl]; exact hs) = joinBox a[i] b[q] := by
      simp only [firstB, List.getElem_map, hq2]
    rw [ef] at e8
    have e10 : (b.map encBox).length = b.length := by simp
    have a2 : ∀ hh, (b.map encBox)[q]'hh = encBox b[q] := by intro hh; simp
    simp only [jpS, jsO, e8]
    simp only [encBox, encBoxO, boxes, mails, ints, intO] at h1 h2 h3 a1 a2 ⊢
    generalize joinBox a[i] b[q] = j at *
    generalize List.map encBox ((firstB a b).take i) = rr at *
    generalize a.map encBox = ra at *
    generalize b.map encBox = rb at *
    generalize a[i].mails.map encMail = rm at *
    generalize irow a[i].gone = rg at *
    generalize b[q].mails.map encMail = rmb at *
    generalize irow b[q].gone = rgb at *
    generalize j.mails.map encMail = rmj at *
    generalize irow j.gone = rgj at *
    generalize irow G = gj at *
    simp (maxSteps := 1000000) [impl_JoinBoxes.l0, List.range_succ, bs_get, setAt, h1, h2, h3, hs, hq1, e5, e6, e7, e9, e10, a1, a2, List.take_of_length_le]
theorem jp_end (k u5 : Nat) (a b : List Box) (G : List Int) (s : JsS) (hs : ¬ s.i < a.length) :
    ∃ n', exC (run M) k impl_JoinBoxes.l0 (jpS u5 a b G s) = some (.exit 0, jpE u5 a b G ⟨s.i, s.v, n'⟩) := by
  obtain ⟨i, v, n⟩ := s
  simp only at hs
  simp only [jpS, jpE, jsO]
  generalize List.map encBox ((firstB a b).take i) = rr at *
  simp only [boxes, ints]
  generalize a.map encBox = ra at *
  generalize b.map encBox = rb at *
  simp (maxSteps := 1000000) [impl_JoinBoxes.l0, List.range_succ, bs_get, setAt, hs]
def upToB (a b : List Box) (i : Nat) : List Box := firstB a b ++ (b.take i).filter fun x => (boxIn a x.gid).isNone
theorem upToB_all (a b : List Box) : upToB a b b.length = allB a b := by simp [upToB, allB]
theorem upToB_zero (a b : List Box) : upToB a b 0 = firstB a b := by simp [upToB]
theorem upToB_len (a b : List Box) (i : Nat) (hi : i ≤ b.length) : (upToB a b i).length ≤ a.length + i := by
  have := List.length_filter_le (fun x : Box => (boxIn a x.gid).isNone) (b.take i)
  simp only [upToB, List.length_append, firstB_len]
  simp at this; omega
def jqS (u5 : Nat) (a b : List Box) (G : List Int) (s : JsS) : St := { t := [(0, .c (boxes a)), (5, .c (.ptr 5 u5 0 0)), (7, .c (.row 16 s.v 0 (upToB a b s.i).length)), (8, .c (.fn 476 [])), (42, .c (boxes b)), (43, .c (I b.length)), (44, .c (I s.i))], o := jsO u5 G s.v ((upToB a b s.i).map encBox), n := s.n }
def jqE (u5 : Nat) (a b : List Box) (G : List Int) (s : JsS) : St := { t := [(0, .c (boxes a)), (5, .c (.ptr 5 u5 0 0)), (7, .c (.row 16 s.v 0 (upToB a b s.i).length)), (8, .c (.fn 476 [])), (42, .c (boxes b)), (43, .c (I b.length)), (44, .c (I s.i)), (45, .c (.bool false))], o := jsO u5 G s.v ((upToB a b s.i).map encBox), n := s.n }
set_option maxHeartbeats 1000000 in
theorem jq_turn (K : JsK M) (k u5 : Nat) (a b : List Box) (G : List Int) (ha : GoodL a) (hb : GoodL b) (s : JsS) (hs : s.i < b.length) :
    ∃ v' n', exC (run M) k impl_JoinBoxes.l1 (jqS u5 a b G s) = some (.normal, jqS u5 a b G ⟨s.i + 1, v', n'⟩) := by
  obtain ⟨i, v, n⟩ := s
  simp only at hs
  have hla := ha.len
  have hlb := hb.len
  have gx := hb.good _ (List.getElem_mem hs)
  have h1 := impl_JoinBoxes_1.says K.at_ a b[i].gid (by omega)
  have e5 := wrap1 (i := i) (by omega)
  have hl := upToB_len a b i (by omega)
  have e7 : ((upToB a b i).map encBox).length = (upToB a b i).length := by simp
  have e6 : (upToB a b i).length + 1 ≤ 4294967296 := by omega
  have e9 : (b.map encBox).length = b.length := by simp
  have a1 : ∀ hh, (b.map encBox)[i]'hh = encBox b[i] := by intro hh; simp
  have eu : upToB a b (i + 1) = upToB a b i ++ if (boxIn a b[i].gid).isNone = true then [b[i]] else [] := by
    simp only [upToB, take_snoc _ _ hs, List.filter_append, List.append_assoc]
    cases q : (boxIn a b[i].gid).isNone <;> simp [q]
  cases hq : boxO a b[i].gid with
  | some q =>
    rw [hq] at h1
    obtain ⟨hq1, hq2⟩ := boxO_some hq
    have nq : ¬ (q : Int) < 0 := by omega
    rw [hq2] at eu
    simp only [Option.isNone_some, Bool.false_eq_true, if_false, List.append_nil] at eu
    simp only [jqS, jsO, eu]
    simp only [encBox, encBoxO, boxes, mails, ints, intO] at h1 a1 ⊢
    generalize List.map encBox (upToB a b i) = rr at *
    generalize (upToB a b i).length = nr at *
    generalize a.map encBox = ra at *
    generalize b.map encBox = rb at *
    generalize b[i].mails.map encMail = rm at *
    generalize irow b[i].gone = rg at *
    generalize irow G = gj at *
    simp (maxSteps := 1000000) [impl_JoinBoxes.l1, List.range_succ, bs_get, setAt, h1, hs, nq, e5, e6, e7, e9, a1, List.take_of_length_le]
  | none =>
    rw [hq] at h1
    have h2 := impl_copyBox.says K.copy b[i] gx.inB
    rw [boxO_none hq] at eu
    simp only [Option.isNone_none, if_true] at eu
    simp only [jqS, jsO, eu, List.map_append, List.map_cons, List.map_nil, List.length_append, List.length_singleton]
    simp only [encBox, encBoxO, boxes, mails, ints, intO] at h1 h2 a1 ⊢
    generalize List.map encBox (upToB a b i) = rr at *
    generalize (upToB a b i).length = nr at *
    generalize a.map encBox = ra at *
    generalize b.map encBox = rb at *
    generalize b[i].mails.map encMail = rm at *
    generalize irow b[i].gone = rg at *
    generalize irow G = gj at *
    simp (maxSteps := 1000000) [impl_JoinBoxes.l1, List.range_succ, bs_get, setAt, h1, h2, hs, e5, e6, e7, e9, a1, List.take_of_length_le]
theorem jq_end (k u5 : Nat) (a b : List Box) (G : List Int) (s : JsS) (hs : ¬ s.i < b.length) :
    ∃ n', exC (run M) k impl_JoinBoxes.l1 (jqS u5 a b G s) = some (.exit 2, jqE u5 a b G ⟨s.i, s.v, n'⟩) := by
  obtain ⟨i, v, n⟩ := s
  simp only at hs
  simp only [jqS, jqE, jsO]
  generalize List.map encBox (upToB a b i) = rr at *
  simp only [boxes, ints]
  generalize a.map encBox = ra at *
  generalize b.map encBox = rb at *
  simp (maxSteps := 1000000) [impl_JoinBoxes.l1, List.range_succ, bs_get, setAt, hs]
end Mx
