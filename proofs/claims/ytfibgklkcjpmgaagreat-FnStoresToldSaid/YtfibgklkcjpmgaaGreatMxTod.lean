/-
  What more of the functions compute, each by a small evaluation; no condition beyond what each says.
-/
import Derived.Test.YtfibgklkcjpmgaaGreatMxToc
set_option linter.unusedSimpArgs false
set_option linter.unusedVariables false
namespace Mx
open Go
variable {M : Nat → Option Body}
theorem impl_copyRegs.says (h : impl_copyRegs.k M) (l : List Reg) (hl : l.length ≤ 1048576) : run M 239 [.c (regs l)] [] = some (.c (.sl true 3 (l.map encReg)), []) := by
  refine run_code (b := impl_copyRegs.m) h ⟨0, ?_⟩
  have e : (l.map encReg).length = l.length := by simp
  have h1 : l.length ≤ 4294967296 := by omega
  simp only [regs]
  generalize l.map encReg = r at *
  simp (maxSteps := 1000000) [exB, impl_copyRegs.m, impl_copyRegs.b, List.range_succ, bs_get, setAt, e, h1, List.take_of_length_le]
theorem spec_l04Copy.says (h : spec_l04Copy.k M) (l : List Reg) (hl : l.length ≤ 1048576) : run M 241 [.c (regs l)] [] = some (.c (.sl true 3 (l.map encReg)), []) := by
  refine run_code (b := spec_l04Copy.m) h ⟨0, ?_⟩
  have e : (l.map encReg).length = l.length := by simp
  have h1 : l.length ≤ 4294967296 := by omega
  simp only [regs]
  generalize l.map encReg = r at *
  simp (maxSteps := 1000000) [exB, spec_l04Copy.m, spec_l04Copy.b, List.range_succ, bs_get, setAt, e, h1, List.take_of_length_le]
theorem impl_copyMail.says (h : impl_copyMail.k M) (m : Mail) (hl : m.flags.length ≤ 1048576) : run M 233 [.a (encMail m)] [] = some (.a (encMailO m), []) := by
  have h1 := impl_copyRegs.says h.2 m.flags hl
  refine run_code (b := impl_copyMail.m) h.1 ⟨0, ?_⟩
  have e : (m.flags.map encReg).length = m.flags.length := by simp
  simp only [encMail, encMailO, regs] at *
  generalize m.flags.map encReg = r at *
  simp (maxSteps := 1000000) [exB, impl_copyMail.m, impl_copyMail.b, List.range_succ, bs_get, setAt, h1, e, List.take_of_length_le]
theorem spec_l05Copy.says (h : spec_l05Copy.k M) (m : Mail) (hl : m.flags.length ≤ 1048576) : run M 238 [.a (encMail m)] [] = some (.a (encMailO m), []) := by
  have h1 := spec_l04Copy.says h.2 m.flags hl
  refine run_code (b := spec_l05Copy.m) h.1 ⟨0, ?_⟩
  have e : (m.flags.map encReg).length = m.flags.length := by simp
  simp only [encMail, encMailO, regs] at *
  generalize m.flags.map encReg = r at *
  simp (maxSteps := 1000000) [exB, spec_l05Copy.m, spec_l05Copy.b, List.range_succ, bs_get, setAt, h1, e, List.take_of_length_le]
/-- a loop that counts -/
theorem count_loop {β γ : Type} (n : Nat) {f : St → Option (Out × St)} (S : Nat → β → St) (e : Nat) (E : γ → St)
    (h1 : ∀ i, i < n → ∀ x, ∃ y, f (S i x) = some (.normal, S (i + 1) y)) (h3 : ∀ x, ∃ y, f (S n x) = some (.exit e, E y)) :
    ∃ g : β → γ, ∀ x, loopN f (n + 1) (S 0 x) = some (.exit e, E (g x)) := by
  refine loop_all (f := f) S (fun i => i ≤ n) (fun i => n - i) (fun _ => ()) (fun _ m => (.exit e, E m)) ?_ (n + 1) 0 (Nat.zero_le _) (by omega)
  intro i x hi
  by_cases hlt : i < n
  · left
    obtain ⟨y, hy⟩ := h1 i hlt x
    exact ⟨i + 1, y, hy, hlt, by omega, rfl⟩
  · have : i = n := by omega
    subst this
    right
    obtain ⟨y, hy⟩ := h3 x
    exact ⟨y, by simp [hy], by simp⟩
def icO (b : Box) (i : Nat) (x : Four × Nat) : List (Nat × Ob) := [(1, ⟨x.1.a, 7, true, true, [encBox b]⟩), (2, ⟨x.1.b, 7, true, true, [bzero]⟩), (3, ⟨x.2, 7, true, true, [[I b.gid, S b.name, I b.time, I b.who, I b.next, .row 7 x.1.c 0 i, ints b.gone]]⟩), (7, ⟨x.1.c, 4, true, false, (b.mails.take i).map encMail⟩)]
def icS (b : Box) (i : Nat) (x : Four × Nat) : St := { t := [(1, .c (.ptr 1 x.1.a 0 0)), (2, .c (.ptr 2 x.1.b 0 0)), (3, .c (.ptr 3 x.2 0 0)), (10, .c (mails b.mails)), (11, .c (I b.mails.length)), (12, .c (I i))], o := icO b i x, n := x.1.d }
def icE (b : Box) (x : Four × Nat) : St := { t := [(1, .c (.ptr 1 x.1.a 0 0)), (2, .c (.ptr 2 x.1.b 0 0)), (3, .c (.ptr 3 x.2 0 0)), (10, .c (mails b.mails)), (11, .c (I b.mails.length)), (12, .c (I b.mails.length)), (13, .c (.bool false))], o := icO b b.mails.length x, n := x.1.d }
theorem take_snoc {α : Type} (l : List α) (i : Nat) (h : i < l.length) : l.take (i + 1) = l.take i ++ [l[i]] := List.take_succ_eq_append_getElem h
theorem impl_copyBox.says (h : impl_copyBox.k M) (b : Box) (hb : BoxIn b) : run M 155 [.a (encBox b)] [] = some (.a (encBoxO b), []) := by
  obtain ⟨h0, k1, k2⟩ := h
  have hm := hb.m
  have h1 := impl_copyInts.says k1 b.gone hb.g
  refine run_code (b := impl_copyBox.m) h0 ⟨b.mails.length + 1, ?_⟩
  obtain ⟨g, hr⟩ := count_loop (f := exC (run M) (b.mails.length + 1) impl_copyBox.l0) b.mails.length (icS b) 0 (icE b)
    (fun i hi x => by
      obtain ⟨⟨v1, v2, v3, n⟩, v4⟩ := x
      have h2 := impl_copyMail.says k2 b.mails[i] (hb.f _ (List.getElem_mem hi))
      have e5 := wrap1 (i := i) (by omega)
      have e6 : i + 1 ≤ 4294967296 := by omega
      have e7 : ((b.mails.take i).map encMail).length = i := by simp; omega
      have e8 : ((b.mails.take (i + 1)).map encMail) = (b.mails.take i).map encMail ++ [encMail b.mails[i]] := by rw [take_snoc _ _ hi, List.map_append]; rfl
      simp only [icS, icO, e8, Prod.exists, Four.ex]
      generalize (b.mails.take i).map encMail = rr at *
      simp only [encMail, encMailO] at h2
      simp (maxSteps := 1000000) [impl_copyBox.l0, List.range_succ, bs_get, setAt, hi, h2, e5, e6, e7, encMail, List.take_of_length_le]
      exact ⟨_, _, _, _, _, ⟨rfl, rfl, rfl⟩, ⟨rfl, rfl, rfl, rfl⟩, rfl⟩)
    (fun x => by
      obtain ⟨⟨v1, v2, v3, n⟩, v4⟩ := x
      simp only [Prod.exists, Four.ex]
      simp (maxSteps := 1000000) [impl_copyBox.l0, List.range_succ, bs_get, setAt, icS, icE, icO]
      exact ⟨_, _, _, _, _, ⟨rfl, rfl, rfl⟩, ⟨rfl, rfl, rfl, rfl⟩, rfl⟩)
  have e7 : (b.mails.map encMail).length = b.mails.length := by simp
  have e8 := irow_length b.gone
  have e9 : b.mails.take b.mails.length = b.mails := by simp
  simp only [ints] at h1
  simp only [icS, icE, icO, e9, List.take_zero, List.map_nil, ints] at hr
  replace hr := fun a b c d n => hr ⟨⟨a, b, c, d⟩, n⟩
  simp only [encBox, encBoxO, mails, ints] at hr ⊢
  generalize b.mails.map encMail = rm at *
  generalize irow b.gone = rg at *
  simp at hr
  simp (maxSteps := 1000000) [exB, impl_copyBox.m, impl_copyBox.b, List.range_succ, bs_get, setAt, hr, h1, e7, e8, List.take_of_length_le]
def scO (b : Box) (i : Nat) (x : Four × Nat) : List (Nat × Ob) := [(1, ⟨x.1.a, 7, true, true, [encBox b]⟩), (2, ⟨x.1.b, 7, true, true, [bzero]⟩), (3, ⟨x.2, 7, true, true, [[I b.gid, S b.name, I b.time, I b.who, I b.next, .row 6 x.1.c 0 i, ints b.gone]]⟩), (6, ⟨x.1.c, 4, true, false, (b.mails.take i).map encMail⟩)]
def scS (b : Box) (i : Nat) (x : Four × Nat) : St := { t := [(1, .c (.ptr 1 x.1.a 0 0)), (2, .c (.ptr 2 x.1.b 0 0)), (3, .c (.ptr 3 x.2 0 0)), (4, .c (I i))], o := scO b i x, n := x.1.d }
def scE (b : Box) (x : Four × Nat) : St := { t := [(1, .c (.ptr 1 x.1.a 0 0)), (2, .c (.ptr 2 x.1.b 0 0)), (3, .c (.ptr 3 x.2 0 0)), (4, .c (I b.mails.length)), (12, .c (.bool false))], o := scO b b.mails.length x, n := x.1.d }
theorem spec_l06Copy.says (h : spec_l06Copy.k M) (b : Box) (hb : BoxIn b) : run M 180 [.a (encBox b)] [] = some (.a (encBoxO b), []) := by
  obtain ⟨h0, k2⟩ := h
  have hm := hb.m
  have hg := hb.g
  refine run_code (b := spec_l06Copy.m) h0 ⟨b.mails.length + 1, ?_⟩
  obtain ⟨g, hr⟩ := count_loop (f := exC (run M) (b.mails.length + 1) spec_l06Copy.l0) b.mails.length (scS b) 0 (scE b)
    (fun i hi x => by
      obtain ⟨⟨v1, v2, v3, n⟩, v4⟩ := x
      have h2 := spec_l05Copy.says k2 b.mails[i] (hb.f _ (List.getElem_mem hi))
      have e5 := wrap1 (i := i) (by omega)
      have e6 : i + 1 ≤ 4294967296 := by omega
      have e7 : ((b.mails.take i).map encMail).length = i := by simp; omega
      have e8 : ((b.mails.take (i + 1)).map encMail) = (b.mails.take i).map encMail ++ [encMail b.mails[i]] := by rw [take_snoc _ _ hi, List.map_append]; rfl
      simp only [scS, scO, e8, Prod.exists, Four.ex]
      generalize (b.mails.take i).map encMail = rr at *
      simp only [encMail, encMailO] at h2
      simp (maxSteps := 1000000) [spec_l06Copy.l0, List.range_succ, bs_get, setAt, hi, h2, e5, e6, e7, encMail, List.take_of_length_le]
      exact ⟨_, _, _, _, _, ⟨rfl, rfl, rfl⟩, ⟨rfl, rfl, rfl, rfl⟩, rfl⟩)
    (fun x => by
      obtain ⟨⟨v1, v2, v3, n⟩, v4⟩ := x
      simp only [Prod.exists, Four.ex]
      simp (maxSteps := 1000000) [spec_l06Copy.l0, List.range_succ, bs_get, setAt, scS, scE, scO]
      exact ⟨_, _, _, _, _, ⟨rfl, rfl, rfl⟩, ⟨rfl, rfl, rfl, rfl⟩, rfl⟩)
  have e7 : (b.mails.map encMail).length = b.mails.length := by simp
  have e8 := irow_length b.gone
  have e9 : b.mails.take b.mails.length = b.mails := by simp
  have e6 : b.gone.length ≤ 4294967296 := by omega
  simp only [scS, scE, scO, e9, List.take_zero, List.map_nil, ints] at hr
  replace hr := fun a b c d n => hr ⟨⟨a, b, c, d⟩, n⟩
  simp only [encBox, encBoxO, mails, ints] at hr ⊢
  generalize b.mails.map encMail = rm at *
  generalize irow b.gone = rg at *
  simp at hr
  simp (maxSteps := 1000000) [exB, spec_l06Copy.m, spec_l06Copy.b, List.range_succ, bs_get, setAt, hr, e6, e7, e8, List.take_of_length_le]
def bitOf (n : Int) (i : Nat) : Int := n.fdiv ((2 ^ i : Nat) : Int) % 2
theorem and_one (x : Int) : andI .i64 x 1 = x % 2 := by
  unfold andI
  have h1 : (BitVec.ofInt IntKind.i64.bits x &&& BitVec.ofInt IntKind.i64.bits 1).toNat = (x % 2).toNat := by
    change (BitVec.ofInt 64 x &&& BitVec.ofInt 64 1).toNat = (x % 2).toNat
    simp only [BitVec.toNat_and, BitVec.toNat_ofInt]
    have : ((1 : Int) % ((2 ^ 64 : Nat) : Int)).toNat = 1 := by decide
    rw [this, Nat.and_one_is_mod]
    have h2 : (x % ((2 ^ 64 : Nat) : Int)).toNat % 2 = (x % ((2 ^ 64 : Nat) : Int) % 2).toNat := by
      have : 0 ≤ x % ((2 ^ 64 : Nat) : Int) := Int.emod_nonneg _ (by decide)
      omega
    rw [h2]
    congr 1
    have : ((2 ^ 64 : Nat) : Int) = 18446744073709551616 := by decide
    rw [this]; omega
  rw [h1, wrap_i64 (by omega) (by omega)]
  omega
def flagsNew (n t w : Int) : List Reg := [⟨bitOf n 0, t, w⟩, ⟨bitOf n 1, t, w⟩, ⟨bitOf n 2, t, w⟩]
theorem impl_FlagsNew.says (h : impl_FlagsNew.k M) (n t w : Int) : run M 157 [.c (I n), .a [I t, I w]] [] = some (.c (.sl true 3 ((flagsNew n t w).map encReg)), []) := by
  refine run_code (b := impl_FlagsNew.m) h ⟨4, ?_⟩
  have w2 : IntKind.i64.wrap 2 = 2 := wrap_i64 (by omega) (by omega)
  have w3 : IntKind.i64.wrap 3 = 3 := wrap_i64 (by omega) (by omega)
  simp (maxSteps := 1000000) [exB, impl_FlagsNew.m, impl_FlagsNew.b, List.range_succ, bs_get, setAt, loopN, impl_FlagsNew.l0, wrap_one, w2, w3, and_one, flagsNew, encReg, bitOf, IntKind.bits]
theorem tmod_two (x : Int) : (x.tmod 2 = 0) ↔ x % 2 = 0 :=
  ⟨fun h => Int.emod_eq_zero_of_dvd (Int.dvd_of_tmod_eq_zero h), fun h => Int.tmod_eq_zero_of_dvd (Int.dvd_of_emod_eq_zero h)⟩
theorem spec_FlagsNew.says (h : spec_FlagsNew.k M) (n t w : Int) : run M 181 [.c (I n), .a [I t, I w]] [] = some (.c (.sl true 3 ((flagsNew n t w).map encReg)), []) := by
  refine run_code (b := spec_FlagsNew.m) h ⟨4, ?_⟩
  have w2 : IntKind.i64.wrap 2 = 2 := wrap_i64 (by omega) (by omega)
  have w3 : IntKind.i64.wrap 3 = 3 := wrap_i64 (by omega) (by omega)
  have u0 : IntKind.u64.wrap 0 = 0 := by decide
  have u1 : IntKind.u64.wrap 1 = 1 := by decide
  have u2 : IntKind.u64.wrap 2 = 2 := by decide
  have key : ∀ i : Nat, bitOf n i = if (n.fdiv ((2 ^ i : Nat) : Int)).tmod 2 = 0 then 0 else 1 := by
    intro i
    unfold bitOf
    by_cases c : (n.fdiv ((2 ^ i : Nat) : Int)).tmod 2 = 0
    · rw [if_pos c]; exact (tmod_two _).1 c
    · rw [if_neg c]; rw [tmod_two] at c; omega
  have k0 := key 0
  have k1 := key 1
  have k2 := key 2
  by_cases c0 : (n.fdiv ((2 ^ 0 : Nat) : Int)).tmod 2 = 0 <;> by_cases c1 : (n.fdiv ((2 ^ 1 : Nat) : Int)).tmod 2 = 0 <;> by_cases c2 : (n.fdiv ((2 ^ 2 : Nat) : Int)).tmod 2 = 0 <;>
    simp only [c0, c1, c2, if_true, if_false] at k0 k1 k2 <;> simp at c0 c1 c2 <;>
    simp (maxSteps := 1000000) [exB, spec_FlagsNew.m, spec_FlagsNew.b, List.range_succ, bs_get, setAt, loopN, spec_FlagsNew.l0, wrap_one, w2, w3, u0, u1, u2, flagsNew, encReg, k0, k1, k2, c0, c1, c2, IntKind.bits]
end Mx

namespace Mx
open Go
variable {M : Nat → Option Body}
def uidAt (l : List Mail) (i : Nat) : Int := match l[i]? with | some m => m.uid | none => 0
def keepsUid (a b : Box) (g : Int) : Bool := match mailO a.mails g with
  | none => false
  | some i => match mailO b.mails g with
    | some k => decide (uidAt a.mails i = uidAt b.mails k)
    | none => decide (b.next ≤ uidAt a.mails i)
end Mx

namespace Mx
open Go
def insBy {α : Type} (k : α → Int) (acc : List α) (m : α) : List α := acc.filter (fun x => decide (k x ≤ k m)) ++ [m] ++ acc.filter (fun x => decide (k m < k x))
def later (t w u x : Int) : Bool := decide (u < t) || (decide (t = u) && decide (x < w))
def joinReg (a b : Reg) : Reg := if later b.time b.who a.time a.who = true ∨ later a.time a.who b.time b.who = false ∧ a.val < b.val then b else a
def joinFlags (a b : List Reg) : List Reg := List.zipWith joinReg a b
def maxT (a b : List UInt8) : List UInt8 := if bless a b = true then b else a
def joinMail (a b : Mail) : Mail := if a.gid = b.gid then ⟨a.gid, Max.max a.uid b.uid, joinFlags a.flags b.flags, maxT a.text b.text⟩ else a
def mailIn (l : List Mail) (g : Int) : Option Mail := l.find? fun m => decide (m.gid = g)
def gids (l : List Mail) : List Int := l.map (·.gid)
def joinM (a b : List Mail) (g : Int) : Mail := match mailIn a g, mailIn b g with
  | some x, some y => joinMail x y
  | some x, none => x
  | none, some y => y
  | none, none => ⟨0, 0, [], []⟩
def needs (a b : Box) (g : Int) : Bool := (holds a g && !keepsUid a b g) || (holds b g && !keepsUid b a g)
def stepJ (a b : Box) (s : List Mail × Int) (g : Int) : List Mail × Int :=
  if g ∈ a.gone ∨ g ∈ b.gone then s else
  if needs a b g = true then (insBy (·.uid) s.1 { joinM a.mails b.mails g with uid := s.2 }, s.2 + 1) else (insBy (·.uid) s.1 (joinM a.mails b.mails g), s.2)
/-- the other side's way -/
def joinedS (a b : Box) : List Mail × Int := (joinGone (gids a.mails) (gids b.mails)).foldl (stepJ a b) ([], Max.max a.next b.next)
/-- what two boxes come to -/
def joinBox (a b : Box) : Box := if a.gid = b.gid then
    { gid := a.gid, name := if later b.time b.who a.time a.who = true ∨ later a.time a.who b.time b.who = false ∧ bless a.name b.name = true then b.name else a.name,
      time := if later b.time b.who a.time a.who = true ∨ later a.time a.who b.time b.who = false ∧ bless a.name b.name = true then b.time else a.time,
      who := if later b.time b.who a.time a.who = true ∨ later a.time a.who b.time b.who = false ∧ bless a.name b.name = true then b.who else a.who,
      next := (joinedS a b).2, mails := (joinedS a b).1, gone := joinGone a.gone b.gone } else a
end Mx

namespace Mx
open Go
variable {M : Nat → Option Body}
theorem impl_Later.says (h : impl_Later.k M) (t w u x : Int) : run M 275 [.a [I t, I w], .a [I u, I x]] [] = some (.c (.bool (later t w u x)), []) := by
  refine run_code (b := impl_Later.m) h ⟨0, ?_⟩
  unfold later
  by_cases c1 : u < t
  · simp (maxSteps := 1000000) [exB, impl_Later.m, impl_Later.b, List.range_succ, bs_get, setAt, c1]
  by_cases c2 : t = u
  · subst c2; simp (maxSteps := 1000000) [exB, impl_Later.m, impl_Later.b, List.range_succ, bs_get, setAt]
  · simp (maxSteps := 1000000) [exB, impl_Later.m, impl_Later.b, List.range_succ, bs_get, setAt, c1, c2]
theorem spec_Later.says (h : spec_Later.k M) (t w u x : Int) : run M 277 [.a [I t, I w], .a [I u, I x]] [] = some (.c (.bool (later t w u x)), []) := by
  refine run_code (b := spec_Later.m) h ⟨0, ?_⟩
  unfold later
  by_cases c2 : t = u
  · subst c2; simp (maxSteps := 1000000) [exB, spec_Later.m, spec_Later.b, List.range_succ, bs_get, setAt]
  · simp (maxSteps := 1000000) [exB, spec_Later.m, spec_Later.b, List.range_succ, bs_get, setAt, c2]
def putReg (r : Reg) (v t w : Int) : Reg := if later t w r.time r.who = true ∧ regOk ⟨v, t, w⟩ = true then ⟨v, t, w⟩ else r
theorem impl_PutReg.says (h : impl_PutReg.k M) (r : Reg) (v t w : Int) : run M 240 [.a (encReg r), .c (I v), .a [I t, I w]] [] = some (.a (encReg (putReg r v t w)), []) := by
  obtain ⟨h0, k1, k2⟩ := h
  have h1 := impl_RegOk.says k1 ⟨v, t, w⟩
  have h2 := impl_Later.says k2 t w r.time r.who
  refine run_code (b := impl_PutReg.m) h0 ⟨0, ?_⟩
  unfold putReg
  simp only [encReg] at h1
  generalize later t w r.time r.who = a at *
  generalize regOk ⟨v, t, w⟩ = b at *
  cases a <;> cases b <;> simp (maxSteps := 1000000) [exB, impl_PutReg.m, impl_PutReg.b, List.range_succ, bs_get, setAt, h1, h2, encReg]
theorem spec_PutReg.says (h : spec_PutReg.k M) (r : Reg) (v t w : Int) : run M 243 [.a (encReg r), .c (I v), .a [I t, I w]] [] = some (.a (encReg (putReg r v t w)), []) := by
  obtain ⟨h0, k1, k2⟩ := h
  have h1 := spec_RegOk.says k1 ⟨v, t, w⟩
  have h2 := spec_Later.says k2 t w r.time r.who
  refine run_code (b := spec_PutReg.m) h0 ⟨0, ?_⟩
  unfold putReg
  simp only [encReg] at h1
  generalize later t w r.time r.who = a at *
  generalize regOk ⟨v, t, w⟩ = b at *
  cases a <;> cases b <;> simp (maxSteps := 1000000) [exB, spec_PutReg.m, spec_PutReg.b, List.range_succ, bs_get, setAt, h1, h2, encReg]
def setFlag (n t w : Int) (i : Nat) (r : Reg) : Reg := if r.val = bitOf n i then r else putReg r (bitOf n i) t w
def setFlags (l : List Reg) (n t w : Int) : List Reg := if flagsOk l = true ∧ inR 0 n 7 = true then l.mapIdx (setFlag n t w) else l
/-- the first k are set -/
def setTo (l : List Reg) (n t w : Int) (k : Nat) : List Reg := l.mapIdx fun i r => if i < k then setFlag n t w i r else r
theorem setTo_zero (l : List Reg) (n t w : Int) : setTo l n t w 0 = l := by
  unfold setTo; simp [List.mapIdx_eq_iff]
theorem setTo_all (l : List Reg) (n t w : Int) : setTo l n t w l.length = l.mapIdx (setFlag n t w) := by
  unfold setTo
  apply List.ext_getElem
  · simp
  · intro i h1 h2; simp at h1 ⊢; intro h; omega
theorem setTo_len (l : List Reg) (n t w : Int) (k : Nat) : (setTo l n t w k).length = l.length := by simp [setTo]
theorem setTo_at (l : List Reg) (n t w : Int) (k : Nat) (h : k < l.length) : (setTo l n t w k)[k]'(by simpa [setTo] using h) = l[k] := by simp [setTo]
theorem setTo_succ (l : List Reg) (n t w : Int) (k : Nat) (h : k < l.length) : setTo l n t w (k + 1) = (setTo l n t w k).set k (setFlag n t w k l[k]) := by
  unfold setTo
  apply List.ext_getElem
  · simp
  · intro i h1 h2
    simp only [List.getElem_mapIdx, List.getElem_set]
    by_cases c : k = i
    · subst c; simp
    · rw [if_neg c]
      by_cases c2 : i < k
      · rw [if_pos c2, if_pos (by omega)]
      · rw [if_neg c2, if_neg (by omega)]
def sgS (l : List Reg) (n t w : Int) (i : Nat) (x : Nat × Nat × Nat) : St := { t := [(1, .c (I n)), (5, .c (.ptr 5 x.1 0 0)), (7, .c (.row 11200 x.2.1 0 l.length)), (22, .c (.row 11200 x.2.1 0 l.length)), (23, .c (I l.length)), (24, .c (I i))], o := [(5, ⟨x.1, 2, true, true, [[I t, I w]]⟩), (11200, ⟨x.2.1, 3, true, false, (setTo l n t w i).map encReg⟩)], n := x.2.2 }
def sgE (l : List Reg) (n t w : Int) (x : Nat × Nat × Nat) : St := { t := [(1, .c (I n)), (5, .c (.ptr 5 x.1 0 0)), (7, .c (.row 11200 x.2.1 0 l.length)), (22, .c (.row 11200 x.2.1 0 l.length)), (23, .c (I l.length)), (24, .c (I l.length)), (25, .c (.bool false))], o := [(5, ⟨x.1, 2, true, true, [[I t, I w]]⟩), (11200, ⟨x.2.1, 3, true, false, (setTo l n t w l.length).map encReg⟩)], n := x.2.2 }
theorem bitOf_range (n : Int) (i : Nat) : 0 ≤ bitOf n i ∧ bitOf n i ≤ 1 := by unfold bitOf; omega
theorem impl_SetFlags.turn (k : impl_PutReg.k M) (l : List Reg) (n t w : Int) (K i : Nat) (hl : l.length = 3) (hi : i < l.length) (x : Nat × Nat × Nat) :
    ∃ y, exC (run M) K impl_SetFlags.l0 (sgS l n t w i x) = some (.normal, sgS l n t w (i + 1) y) := by
  obtain ⟨v, u, x⟩ := x
  have e5 := wrap1 (i := i) (by omega)
  have h1 := impl_PutReg.says k l[i] (bitOf n i) t w
  have hlen : ((setTo l n t w i).map encReg).length = l.length := by simp [setTo_len]
  have hi2 : i < ((setTo l n t w i).map encReg).length := by omega
  have hat : ((setTo l n t w i).map encReg)[i]'hi2 = encReg l[i] := by rw [List.getElem_map, setTo_at]
  have hat2 : ((setTo l n t w i).map encReg)[i]? = some (encReg l[i]) := by rw [List.getElem?_eq_getElem hi2, hat]
  have hset : (setTo l n t w (i + 1)).map encReg = ((setTo l n t w i).map encReg).set i (encReg (setFlag n t w i l[i])) := by rw [setTo_succ _ _ _ _ _ hi, List.map_set]
  have hb := bitOf_range n i
  have hbit : andI .i64 (n.fdiv ((2 ^ i : Nat) : Int)) 1 = bitOf n i := and_one _
  have hmin : Min.min i 64 = i := by omega
  simp only [sgS, hset, setFlag, Prod.exists]
  generalize (setTo l n t w i).map encReg = rr at *
  have hbit2 : andI .i64 (n.fdiv (2 ^ i)) 1 = bitOf n i := by rw [← hbit]; norm_cast
  have hii : (i : Int) < 3 := by omega
  have h3 : i < 3 := by omega
  have hng : ¬ (i : Int) < 0 := by omega
  simp only [encReg] at h1 hat hat2
  by_cases c : l[i].val = bitOf n i
  · rw [if_pos c]
    have hself : rr.set i [I l[i].val, I l[i].time, I l[i].who] = rr := by
      apply List.ext_getElem?
      intro j
      rw [List.getElem?_set]
      split
      · rename_i hj; subst hj; simp [hi2, hat]
      · rfl
    rw [hself]
    simp (maxSteps := 1000000) [impl_SetFlags.l0, List.range_succ, bs_get, setAt, hl, hlen, hat, hat2, e5, hmin, hbit, hbit2, hii, h3, hng, c, encReg, IntKind.bits]
  · rw [if_neg c]
    simp (maxSteps := 1000000) [impl_SetFlags.l0, List.range_succ, bs_get, setAt, hl, hlen, hat, hat2, e5, hmin, hbit, hbit2, hii, h3, hng, c, h1, encReg, IntKind.bits]
end Mx

namespace Mx
open Go
/-- a loop whose rounds are told by an invariant alone -/
theorem loop_ex {σ : Type} {f : St → Option (Out × St)} (S : σ → St) (Inv : σ → Prop) (μ : σ → Nat) (Post : Out × St → Prop)
    (h : ∀ s, Inv s → (∃ s', f (S s) = some (.normal, S s') ∧ Inv s' ∧ μ s' < μ s) ∨ (∃ r, f (S s) = some r ∧ r.1 ≠ .normal ∧ Post r)) :
    ∀ m s, Inv s → μ s < m → ∃ r, loopN f m (S s) = some r ∧ Post r
  | 0, s, _, hm => by omega
  | m + 1, s, hi, hm => by
    rcases h s hi with ⟨s', h1, h2, h3⟩ | ⟨⟨o, r⟩, h1, h2, h3⟩
    · obtain ⟨r, q1, q2⟩ := loop_ex S Inv μ Post h m s' h2 (by omega)
      exact ⟨r, by simp only [loopN, h1]; exact q1, q2⟩
    · refine ⟨(o, r), ?_, h3⟩
      simp only [loopN, h1]
      cases o with
      | normal => exact (h2 rfl).elim
      | _ => rfl
end Mx

namespace Mx
open Go
variable {M : Nat → Option Body}
def pAt {α : Type} (p : α → Bool) (l : List α) (i : Nat) : Bool := match l[i]? with | some m => p m | none => false
theorem pAt_at {α : Type} (p : α → Bool) (l : List α) (i : Nat) (h : i < l.length) : pAt p l i = p l[i] := by simp [pAt, h]
end Mx

namespace Mx
open Go
variable {M : Nat → Option Body}
def bigS (f : Nat) (cs : List T) (l : List Box) (i : Nat) (x : Nat) : St := { t := [(0, .c (boxes l)), (1, .c (.fn f [.vp cs 0])), (7, .c (I l.length)), (8, .c (I i))], o := [], n := x }
theorem slices_IndexFunc_impl_Box_impl_Box.gen (h : slices_IndexFunc_impl_Box_impl_Box.k M) {f : Nat} {cs : List T} {p : Box → Bool} (hf : ∀ m, run M f [.a (encBox m), .c (.vp cs 0)] [] = some (.c (.bool (p m)), [])) (l : List Box) (hl : l.length ≤ 1048576) :
    run M 200 [.c (boxes l), .c (.fn f [.vp cs 0])] [] = some (.c (I (intO (firstN (pAt p l) l.length))), []) := by
  refine run_code (b := slices_IndexFunc_impl_Box_impl_Box.m) h ⟨l.length + 1, ?_⟩
  obtain ⟨g', hr⟩ := first_loop (f := exC (run M) (l.length + 1) slices_IndexFunc_impl_Box_impl_Box.l0) l.length (pAt p l) (bigS f cs l) atFin atFin_ne
    (fun i hi x c => by
      have hm := hf l[i]
      rw [pAt_at p l i hi] at c
      rw [c] at hm
      have e5 := wrap1 (i := i) (by omega)
      simp [bigS, slices_IndexFunc_impl_Box_impl_Box.l0, hi, hm, encBox, e5])
    (fun i hi x c => by
      have hm := hf l[i]
      rw [pAt_at p l i hi] at c
      rw [c] at hm
      simp [bigS, slices_IndexFunc_impl_Box_impl_Box.l0, hi, hm, encBox, atFin]
      exact ⟨⟨[], [], _⟩, rfl⟩)
    (fun x => by simp [bigS, slices_IndexFunc_impl_Box_impl_Box.l0, atFin])
  cases hm : firstN (pAt p l) l.length with
  | none =>
    simp [bigS, hm, atFin] at hr
    simp [exB, slices_IndexFunc_impl_Box_impl_Box.m, slices_IndexFunc_impl_Box_impl_Box.b, List.range_succ, hr, intO]
  | some k =>
    simp [bigS, hm, atFin] at hr
    simp [exB, slices_IndexFunc_impl_Box_impl_Box.m, slices_IndexFunc_impl_Box_impl_Box.b, List.range_succ, hr, intO]
end Mx

namespace Mx
open Go
variable {M : Nat → Option Body}
def fig (d : Nat) : UInt8 := UInt8.ofNat (48 + d)
def digs (m : Nat) (acc : List UInt8) : List UInt8 := if m = 0 then acc else digs (m / 10) (fig (m % 10) :: acc)
termination_by m
decreasing_by omega
def dec (n : Int) : List UInt8 := if n = 0 then [48] else (if n < 0 then [45] else []) ++ digs n.natAbs []
end Mx

namespace Mx
open Go
variable {M : Nat → Option Body}
def otherName (s : List UInt8) (g : Int) : List UInt8 := s.take 6 ++ [120] ++ if 0 < g then (dec g).drop ((dec g).length - 5) else []
def boxO (l : List Box) (g : Int) : Option Nat := firstN (pAt (fun b : Box => decide (b.gid = g)) l) l.length
def boxIn (l : List Box) (g : Int) : Option Box := l.find? fun b => decide (b.gid = g)
theorem boxO_some {l : List Box} {g : Int} {k : Nat} (h : boxO l g = some k) : ∃ hk : k < l.length, boxIn l g = some l[k] := by
  obtain ⟨h1, h2, h3⟩ := firstN_some h
  refine ⟨h1, ?_⟩
  unfold boxIn
  rw [List.find?_eq_some_iff_getElem]
  rw [pAt_at _ _ _ h1] at h2
  refine ⟨h2, k, h1, rfl, fun j hj => ?_⟩
  have := h3 j hj
  rw [pAt_at _ _ _ (by omega)] at this
  simp only [this, Bool.not_false]
end Mx

namespace Mx
open Go
variable {M : Nat → Option Body}
abbrev curD (R : List (List T)) (i : Nat) (h : Int) : Nat × Ob := (0, ⟨0, 3, true, true, [[.sl false 1 R, I i, I h]]⟩)
def Bytes (R : List (List T)) : Prop := R.length ≤ 1048576 ∧ ∀ (i : Nat) (r : List T), R[i]? = some r → ∃ n : Int, r = [.int .u8 n]
theorem and_255 (x : Int) : ∃ n : Nat, n < 256 ∧ andI .i64 x 255 = (n : Int) := by
  rw [andI_eq]
  refine ⟨(x % ((2 ^ IntKind.i64.bits : Nat) : Int)).toNat &&& 255, ?_, ?_⟩
  · have : (x % ((2 ^ IntKind.i64.bits : Nat) : Int)).toNat &&& 255 ≤ 255 := Nat.and_le_right
    omega
  · have h : (x % ((2 ^ IntKind.i64.bits : Nat) : Int)).toNat &&& 255 ≤ 255 := Nat.and_le_right
    have e : ((255 : Int) % ((2 ^ IntKind.i64.bits : Nat) : Int)).toNat = 255 := by decide
    rw [e]
    exact wrap_i64 (by omega) (by omega)
theorem spec_l01Byte.says (h : spec_l01Byte.k M) {R : List (List T)} (hR : Bytes R) (i : Nat) (q : Int) (hi : i ≤ R.length) :
    ∃ (x i' : Nat) (q' : Int), x < 256 ∧ i' ≤ R.length ∧ run M 131 [.c (.ptr 0 0 0 0)] [curD R i q] = some (.c (I x), [curD R i' q']) := by
  obtain ⟨hl, hb⟩ := hR
  obtain ⟨q1, hq1⟩ : ∃ q1, IntKind.i64.wrap (IntKind.i64.wrap (q * 6364136223846793005) + 1442695040888963407) = q1 := ⟨_, rfl⟩
  obtain ⟨x, hx, e1⟩ := and_255 (xorI .i64 (q1.fdiv ((2 : Int) ^ min 33 IntKind.i64.bits)) (q1.fdiv ((2 : Int) ^ min 45 IntKind.i64.bits)))
  by_cases hlt : i < R.length
  · obtain ⟨n, hn⟩ := hb i R[i] (List.getElem?_eq_getElem hlt)
    obtain ⟨y, hy, e2⟩ := and_255 (IntKind.i64.wrap (x + IntKind.i64.wrap n))
    refine ⟨y, i + 1, q1, hy, by omega, ?_⟩
    refine run_code (b := spec_l01Byte.m) h ⟨0, ?_⟩
    have e3 := wrap1 (i := i) (by omega)
    simp (maxSteps := 1000000) [exB, spec_l01Byte.m, spec_l01Byte.b, List.range_succ, bs_get, setAt, hq1, e1, e2, e3, hlt, hn]
  · refine ⟨x, i, q1, hx, hi, ?_⟩
    refine run_code (b := spec_l01Byte.m) h ⟨0, ?_⟩
    simp (maxSteps := 1000000) [exB, spec_l01Byte.m, spec_l01Byte.b, List.range_succ, bs_get, setAt, hq1, e1, hlt]
theorem tmod_small (x n : Nat) (hn : 0 < n) : ∃ y : Nat, y < n ∧ ((x : Int).tmod (n : Int)) = (y : Int) := ⟨x % n, Nat.mod_lt _ hn, by rw [Int.tmod_eq_emod_of_nonneg (by omega)]; rfl⟩
/-- a number below n (at most 256, or a drawn one of four bytes) -/
theorem spec_l01Below.says (h : spec_l01Below.k M) {R : List (List T)} (hR : Bytes R) (i : Nat) (q : Int) (hi : i ≤ R.length) (n : Nat) (hn : 0 < n) (hn2 : n ≤ 1000000000) :
    ∃ (x i' : Nat) (q' : Int), x < n ∧ i' ≤ R.length ∧ run M 125 [.c (.ptr 0 0 0 0), .c (I n)] [curD R i q] = some (.c (I x), [curD R i' q']) := by
  obtain ⟨h0, k1⟩ := h
  have n0 : ¬ (n : Int) ≤ 0 := by omega
  have n1 : ¬ n = 0 := by omega
  obtain ⟨x1, i1, q1, hx1, hi1, h1⟩ := spec_l01Byte.says k1 hR i q hi
  by_cases hs : n ≤ 256
  · have hs2 : (n : Int) ≤ 256 := by omega
    obtain ⟨y, hy, e⟩ := tmod_small x1 n hn
    refine ⟨y, i1, q1, hy, hi1, ?_⟩
    refine run_code (b := spec_l01Below.m) h0 ⟨0, ?_⟩
    simp (maxSteps := 1000000) [exB, spec_l01Below.m, spec_l01Below.b, List.range_succ, bs_get, setAt, h1, n0, n1, hs, hs2, e]
  · have hs2 : ¬ (n : Int) ≤ 256 := by omega
    obtain ⟨x2, i2, q2, hx2, hi2, h2⟩ := spec_l01Byte.says k1 hR i1 q1 hi1
    obtain ⟨x3, i3, q3, hx3, hi3, h3⟩ := spec_l01Byte.says k1 hR i2 q2 hi2
    obtain ⟨x4, i4, q4, hx4, hi4, h4⟩ := spec_l01Byte.says k1 hR i3 q3 hi3
    have w1 : IntKind.i64.wrap ((x1 : Int) * 16777216) = ((x1 * 16777216 : Nat) : Int) := wrap_i64 (by omega) (by omega)
    have w2 : IntKind.i64.wrap ((x2 : Int) * 65536) = ((x2 * 65536 : Nat) : Int) := wrap_i64 (by omega) (by omega)
    have w3 : IntKind.i64.wrap ((x3 : Int) * 256) = ((x3 * 256 : Nat) : Int) := wrap_i64 (by omega) (by omega)
    obtain ⟨y1, hy1⟩ : ∃ y1, x1 * 16777216 = y1 := ⟨_, rfl⟩
    obtain ⟨y2, hy2⟩ : ∃ y2, x2 * 65536 = y2 := ⟨_, rfl⟩
    obtain ⟨y3, hy3⟩ : ∃ y3, x3 * 256 = y3 := ⟨_, rfl⟩
    rw [hy1] at w1; rw [hy2] at w2; rw [hy3] at w3
    have w4 : IntKind.i64.wrap ((y1 : Int) + y2) = ((y1 + y2 : Nat) : Int) := wrap_i64 (by omega) (by omega)
    obtain ⟨z1, hz1⟩ : ∃ z1, y1 + y2 = z1 := ⟨_, rfl⟩
    rw [hz1] at w4
    have w5 : IntKind.i64.wrap ((z1 : Int) + y3) = ((z1 + y3 : Nat) : Int) := wrap_i64 (by omega) (by omega)
    obtain ⟨z2, hz2⟩ : ∃ z2, z1 + y3 = z2 := ⟨_, rfl⟩
    rw [hz2] at w5
    have w6 : IntKind.i64.wrap ((z2 : Int) + x4) = ((z2 + x4 : Nat) : Int) := wrap_i64 (by omega) (by omega)
    obtain ⟨z3, hz3⟩ : ∃ z3, z2 + x4 = z3 := ⟨_, rfl⟩
    rw [hz3] at w6
    obtain ⟨y, hy, e⟩ := tmod_small z3 n hn
    refine ⟨y, i4, q4, hy, hi4, ?_⟩
    refine run_code (b := spec_l01Below.m) h0 ⟨0, ?_⟩
    simp (maxSteps := 1000000) [exB, spec_l01Below.m, spec_l01Below.b, List.range_succ, bs_get, setAt, h1, h2, h3, h4, w1, w2, w3, w4, w5, w6, n0, n1, hs, hs2, e]
theorem spec_l01Pick.says (h : spec_l01Pick.k M) {R : List (List T)} (hR : Bytes R) (i : Nat) (q : Int) (hi : i ≤ R.length) (ss : List (List UInt8)) (h0 : 0 < ss.length) (hn : ss.length ≤ 256) :
    ∃ (s : List UInt8) (i' : Nat) (q' : Int), s ∈ ss ∧ i' ≤ R.length ∧ run M 185 [.c (.ptr 0 0 0 0), .c (.sl false 1 (ss.map fun s => [S s]))] [curD R i q] = some (.c (S s), [curD R i' q']) := by
  obtain ⟨hm, k1⟩ := h
  obtain ⟨x, i1, q1, hx, hi1, h1⟩ := spec_l01Below.says k1 hR i q hi ss.length h0 (by omega)
  refine ⟨ss[x], i1, q1, List.getElem_mem hx, hi1, ?_⟩
  refine run_code (b := spec_l01Pick.m) hm ⟨0, ?_⟩
  simp (maxSteps := 1000000) [exB, spec_l01Pick.m, spec_l01Pick.b, List.range_succ, bs_get, setAt, h1, hx]
theorem spec_l03Stamp.says (h : spec_l03Stamp.k M) {R : List (List T)} (hR : Bytes R) (i : Nat) (q : Int) (hi : i ≤ R.length) :
    ∃ (t w i' : Nat) (q' : Int), t < 12 ∧ 1 ≤ w ∧ w ≤ 2 ∧ i' ≤ R.length ∧ run M 232 [.c (.ptr 0 0 0 0)] [curD R i q] = some (.a [I t, I w], [curD R i' q']) := by
  obtain ⟨hm, k1⟩ := h
  obtain ⟨x, i1, q1, hx, hi1, h1⟩ := spec_l01Below.says k1 hR i q hi 12 (by omega) (by omega)
  obtain ⟨y, i2, q2, hy, hi2, h2⟩ := spec_l01Below.says k1 hR i1 q1 hi1 2 (by omega) (by omega)
  simp only [Int.cast_ofNat_Int] at h1 h2
  have e : IntKind.i64.wrap (1 + (y : Int)) = ((1 + y : Nat) : Int) := wrap_i64 (by omega) (by omega)
  refine ⟨x, 1 + y, i2, q2, hx, by omega, by omega, hi2, ?_⟩
  refine run_code (b := spec_l03Stamp.m) hm ⟨0, ?_⟩
  simp (maxSteps := 1000000) [exB, spec_l03Stamp.m, spec_l03Stamp.b, List.range_succ, bs_get, setAt, h1, h2, e]
def texts5 : List (List UInt8) := [[104, 101, 108, 108, 111], [104, 105, 10], [], [116, 101, 120, 116, 32, 111, 102, 32, 105, 116], [0, 255], [97, 32, 98]]
theorem spec_l05Text.says (h : spec_l05Text.k M) {R : List (List T)} (hR : Bytes R) (i : Nat) (q : Int) (hi : i ≤ R.length) :
    ∃ (s : List UInt8) (i' : Nat) (q' : Int), s.length ≤ 60 ∧ i' ≤ R.length ∧ run M 174 [.c (.ptr 0 0 0 0)] [curD R i q] = some (.c (S s), [curD R i' q']) := by
  obtain ⟨hm, k1⟩ := h
  obtain ⟨s, i1, q1, hs, hi1, h1⟩ := spec_l01Pick.says k1 hR i q hi texts5 (by decide) (by decide)
  refine ⟨s, i1, q1, ?_, hi1, ?_⟩
  · have : ∀ s ∈ texts5, s.length ≤ 60 := by decide
    exact this s hs
  · refine run_code (b := spec_l05Text.m) hm ⟨0, ?_⟩
    simp only [texts5, List.map_cons, List.map_nil, bs] at h1 ⊢
    simp (maxSteps := 1000000) [exB, spec_l05Text.m, spec_l05Text.b, List.range_succ, bs_get, setAt, h1]
end Mx

namespace Mx
open Go
variable {M : Nat → Option Body}
def byteAt (R : List (List T)) (i : Nat) : Int := match R[i]? with
  | some [.int _ n] => IntKind.i64.wrap n
  | _ => 0
def hAt (R : List (List T)) : Nat → Int
  | 0 => 77201 + R.length
  | i + 1 => andI .i64 (IntKind.i64.wrap (IntKind.i64.wrap (IntKind.i64.wrap (hAt R i * 131) + byteAt R i) + 7)) 1073741823
def lnN (R : List (List T)) : Nat := min R.length 4000
def lnS (R : List (List T)) (i : Nat) (x : Nat) : St := { t := [(0, .c (.sl false 1 R)), (3, .c (I (hAt R i))), (4, .c (I i))], o := [], n := x }
def lnE (R : List (List T)) (x : Nat) : St := { t := [(0, .c (.sl false 1 R)), (3, .c (I (hAt R (lnN R)))), (4, .c (I (lnN R))), (15, .c (.bool false))], o := [], n := x }
theorem spec_l01New.says (h : spec_l01New.k M) {R : List (List T)} (hR : Bytes R) :
    ∃ q : Int, run M 124 [.c (.sl false 1 R)] [] = some (.c (.vp [.sl false 1 R, I 0, I q] 0), []) := by
  refine ⟨hAt R (lnN R), run_code (b := spec_l01New.m) h ⟨lnN R + 1, ?_⟩⟩
  have hl := hR.1
  obtain ⟨g, hr⟩ := count_loop (f := exC (run M) (lnN R + 1) spec_l01New.l0) (lnN R) (lnS R) 0 (lnE R)
    (fun i hi x => by
      have h1 : i < R.length := by unfold lnN at hi; omega
      have h2 : i < 4000 := by unfold lnN at hi; omega
      have h3 : (i : Int) < 4000 := by omega
      obtain ⟨n, hn⟩ := hR.2 i R[i] (List.getElem?_eq_getElem h1)
      have hb : byteAt R i = IntKind.i64.wrap n := by simp [byteAt, h1, hn]
      have e3 := wrap1 (i := i) (by omega)
      simp only [lnS, hAt, hb]
      generalize hAt R i = q
      simp (maxSteps := 1000000) [spec_l01New.l0, List.range_succ, bs_get, setAt, h1, h2, h3, hn, e3])
    (fun x => by
      simp only [lnS, lnE]
      generalize hAt R (lnN R) = q
      by_cases c : R.length < 4000
      · have e : lnN R = R.length := by unfold lnN; omega
        rw [e]
        simp (maxSteps := 1000000) [spec_l01New.l0, List.range_succ, bs_get, setAt]
      · have e : lnN R = 4000 := by unfold lnN; omega
        rw [e]
        simp only [Int.cast_ofNat_Int]
        by_cases c2 : 4000 < R.length
        · have c3 : (4000 : Int) < (R.length : Int) := by omega
          simp (maxSteps := 1000000) [spec_l01New.l0, List.range_succ, bs_get, setAt, c2, c3]
        · have c3 : ¬ (4000 : Int) < (R.length : Int) := by omega
          simp (maxSteps := 1000000) [spec_l01New.l0, List.range_succ, bs_get, setAt, c2, c3])
  simp only [lnS, lnE, hAt] at hr
  generalize hAt R (lnN R) = q at *
  simp at hr
  have e : IntKind.i64.wrap (77201 + (R.length : Int)) = 77201 + (R.length : Int) := wrap_i64 (by omega) (by omega)
  simp (maxSteps := 1000000) [exB, spec_l01New.m, spec_l01New.b, List.range_succ, bs_get, setAt, hr, e]
end Mx

namespace Mx
open Go
variable {M : Nat → Option Body}
structure PlS where
  i : Nat
  rows : List (List T)
  v : Nat
  vc : Nat
  ic : Nat
  q : Int
  n : Nat
theorem PlS.ex {p : PlS → Prop} : (∃ s, p s) ↔ ∃ i rows v vc ic q n, p ⟨i, rows, v, vc, ic, q, n⟩ := ⟨fun ⟨⟨i, rows, v, vc, ic, q, n⟩, h⟩ => ⟨i, rows, v, vc, ic, q, n, h⟩, fun ⟨i, rows, v, vc, ic, q, n, h⟩ => ⟨⟨i, rows, v, vc, ic, q, n⟩, h⟩⟩
end Mx

namespace Mx
open Go
variable {M : Nat → Option Body}
theorem impl_SetFlags.says (h : impl_SetFlags.k M) (l : List Reg) (n t w : Int) (hl : l.length ≤ 1048576) : run M 182 [.c (regs l), .c (I n), .a [I t, I w]] [] = some (.c (.sl true 3 ((setFlags l n t w).map encReg)), []) := by
  obtain ⟨h0, k1, k2, k3, k4⟩ := h
  have h1 := impl_isFlags.says k1 n
  have h2 := impl_FlagsOk.says k2 l hl
  have h3 := impl_copyRegs.says k3 l hl
  refine run_code (b := impl_SetFlags.m) h0 ⟨4, ?_⟩
  have e7 : (l.map encReg).length = l.length := by simp
  have e8 : (l.map encReg).all (fun r => r.all T.scalar) = true := by simp [T.scalar]
  unfold setFlags
  simp only [regs] at *
  cases c1 : flagsOk l
  · simp only [Bool.false_eq_true, false_and, if_false]
    generalize l.map encReg = r at *
    simp (maxSteps := 1000000) [exB, impl_SetFlags.m, impl_SetFlags.b, List.range_succ, bs_get, setAt, h2, h3, c1, e7, e8, List.take_of_length_le]
  cases c2 : inR 0 n 7
  · simp only [Bool.false_eq_true, and_false, if_false]
    generalize l.map encReg = r at *
    simp (maxSteps := 1000000) [exB, impl_SetFlags.m, impl_SetFlags.b, List.range_succ, bs_get, setAt, h1, h2, h3, c1, c2, e7, e8, List.take_of_length_le]
  have hl3 := (flagsOk_regs c1).1
  obtain ⟨g, hr⟩ := count_loop (f := exC (run M) 4 impl_SetFlags.l0) l.length (sgS l n t w) 0 (sgE l n t w)
    (fun i hi x => impl_SetFlags.turn k4 l n t w 4 i hl3 hi x)
    (fun x => by
      obtain ⟨v, u, x⟩ := x
      simp only [sgS, sgE, Prod.exists]
      generalize (setTo l n t w l.length).map encReg = rr
      simp (maxSteps := 1000000) [impl_SetFlags.l0, List.range_succ, bs_get, setAt])
  have e9 : ((setTo l n t w l.length).map encReg).length = l.length := by simp [setTo_len]
  simp only [true_and, if_true]
  rw [← setTo_all]
  simp only [sgS, sgE, setTo_zero] at hr
  generalize (setTo l n t w l.length).map encReg = rr at *
  generalize l.map encReg = r at *
  simp [hl3] at hr
  simp (maxSteps := 1000000) [exB, impl_SetFlags.m, impl_SetFlags.b, List.range_succ, bs_get, setAt, hr, h1, h2, h3, c1, c2, e7, e8, e9, hl3, List.take_of_length_le]
def shS (l : List Reg) (n t w : Int) (i : Nat) (x : Nat × Nat × Nat) : St := { t := [(1, .c (I n)), (5, .c (.ptr 5 x.1 0 0)), (7, .c (.row 11100 x.2.1 0 l.length)), (8, .c (I i))], o := [(5, ⟨x.1, 2, true, true, [[I t, I w]]⟩), (11100, ⟨x.2.1, 3, true, false, (setTo l n t w i).map encReg⟩)], n := x.2.2 }
def shE (l : List Reg) (n t w : Int) (x : Nat × Nat × Nat) : St := { t := [(1, .c (I n)), (5, .c (.ptr 5 x.1 0 0)), (7, .c (.row 11100 x.2.1 0 l.length)), (8, .c (I l.length)), (24, .c (.bool false))], o := [(5, ⟨x.1, 2, true, true, [[I t, I w]]⟩), (11100, ⟨x.2.1, 3, true, false, (setTo l n t w l.length).map encReg⟩)], n := x.2.2 }
theorem spec_SetFlags.turn (k : spec_PutReg.k M) (l : List Reg) (n t w : Int) (K i : Nat) (hn : 0 ≤ n) (hl : l.length = 3) (hi : i < l.length) (x : Nat × Nat × Nat) :
    ∃ y, exC (run M) K spec_SetFlags.l0 (shS l n t w i x) = some (.normal, shS l n t w (i + 1) y) := by
  obtain ⟨v, u, x⟩ := x
  have e5 := wrap1 (i := i) (by omega)
  have h1 := spec_PutReg.says k l[i] (bitOf n i) t w
  have hlen : ((setTo l n t w i).map encReg).length = l.length := by simp [setTo_len]
  have hi2 : i < ((setTo l n t w i).map encReg).length := by omega
  have hat : ((setTo l n t w i).map encReg)[i]'hi2 = encReg l[i] := by rw [List.getElem_map, setTo_at]
  have hset : (setTo l n t w (i + 1)).map encReg = ((setTo l n t w i).map encReg).set i (encReg (setFlag n t w i l[i])) := by rw [setTo_succ _ _ _ _ _ hi, List.map_set]
  have hmin : Min.min i 64 = i := by omega
  have hu : IntKind.u64.wrap (i : Int) = i := by unfold IntKind.wrap; simp [IntKind.bits, IntKind.signed]; omega
  have hdiv : 0 ≤ n.fdiv ((2 ^ i : Nat) : Int) := Int.fdiv_nonneg hn (Int.natCast_nonneg _)
  have hbit : (n.fdiv ((2 ^ i : Nat) : Int)).tmod 2 = bitOf n i := by
    unfold bitOf; exact Int.tmod_eq_emod_of_nonneg hdiv
  have hbit2 : (n.fdiv (2 ^ i)).tmod 2 = bitOf n i := by rw [← hbit]; norm_cast
  have hii : (i : Int) < 3 := by omega
  have h3 : i < 3 := by omega
  have hng : ¬ (i : Int) < 0 := by omega
  simp only [shS, hset, setFlag, Prod.exists]
  generalize (setTo l n t w i).map encReg = rr at *
  simp only [encReg] at h1 hat
  by_cases c : l[i].val = bitOf n i
  · rw [if_pos c]
    have hself : rr.set i [I l[i].val, I l[i].time, I l[i].who] = rr := by
      apply List.ext_getElem?
      intro j
      rw [List.getElem?_set]
      split
      · rename_i hj; subst hj; simp [hi2, hat]
      · rfl
    rw [hself]
    simp (maxSteps := 1000000) [spec_SetFlags.l0, List.range_succ, bs_get, setAt, hl, hlen, hat, e5, hu, hmin, hbit, hbit2, hii, h3, hng, c, encReg, IntKind.bits]
  · rw [if_neg c]
    simp (maxSteps := 1000000) [spec_SetFlags.l0, List.range_succ, bs_get, setAt, hl, hlen, hat, e5, hu, hmin, hbit, hbit2, hii, h3, hng, c, h1, encReg, IntKind.bits]
theorem spec_SetFlags.says (h : spec_SetFlags.k M) (l : List Reg) (n t w : Int) (hl : l.length ≤ 1048576) : run M 184 [.c (regs l), .c (I n), .a [I t, I w]] [] = some (.c (.sl true 3 ((setFlags l n t w).map encReg)), []) := by
  obtain ⟨h0, k1, k3, k2, k4⟩ := h
  have h1 := spec_l01In.inR k1 n 0 7
  have h2 := spec_FlagsOk.says k2 l hl
  have h3 := spec_l04Copy.says k3 l hl
  refine run_code (b := spec_SetFlags.m) h0 ⟨4, ?_⟩
  have e7 : (l.map encReg).length = l.length := by simp
  have e8 : (l.map encReg).all (fun r => r.all T.scalar) = true := by simp [T.scalar]
  unfold setFlags
  simp only [regs] at *
  cases c1 : flagsOk l
  · simp only [Bool.false_eq_true, false_and, if_false]
    generalize l.map encReg = r at *
    simp (maxSteps := 1000000) [exB, spec_SetFlags.m, spec_SetFlags.b, List.range_succ, bs_get, setAt, h2, h3, c1, e7, e8, List.take_of_length_le]
  cases c2 : inR 0 n 7
  · simp only [Bool.false_eq_true, and_false, if_false]
    generalize l.map encReg = r at *
    simp (maxSteps := 1000000) [exB, spec_SetFlags.m, spec_SetFlags.b, List.range_succ, bs_get, setAt, h1, h2, h3, c1, c2, e7, e8, List.take_of_length_le]
  have hl3 := (flagsOk_regs c1).1
  obtain ⟨g, hr⟩ := count_loop (f := exC (run M) 4 spec_SetFlags.l0) l.length (shS l n t w) 0 (shE l n t w)
    (fun i hi x => spec_SetFlags.turn k4 l n t w 4 i (inR_iff.1 c2).1 hl3 hi x)
    (fun x => by
      obtain ⟨v, u, x⟩ := x
      simp only [shS, shE, Prod.exists]
      generalize (setTo l n t w l.length).map encReg = rr
      simp (maxSteps := 1000000) [spec_SetFlags.l0, List.range_succ, bs_get, setAt])
  have e9 : ((setTo l n t w l.length).map encReg).length = l.length := by simp [setTo_len]
  simp only [true_and, if_true]
  rw [← setTo_all]
  simp only [shS, shE, setTo_zero] at hr
  generalize (setTo l n t w l.length).map encReg = rr at *
  generalize l.map encReg = r at *
  simp [hl3] at hr
  simp (maxSteps := 1000000) [exB, spec_SetFlags.m, spec_SetFlags.b, List.range_succ, bs_get, setAt, hr, h1, h2, h3, c1, c2, e7, e8, e9, hl3, List.take_of_length_le]
end Mx

namespace Mx
open Go
variable {M : Nat → Option Body}
def flagMail (b : Box) (g n t w : Int) : Box × Bool := match mailO b.mails g with
  | none => (b, false)
  | some k => match b.mails[k]? with
    | none => (b, false)
    | some m => if boxOk b = true ∧ inR 0 n 7 = true ∧ stampOk t w = true then ({ b with mails := b.mails.set k { m with flags := setFlags m.flags n t w } }, true) else (b, false)
theorem mailO_lt {l : List Mail} {g : Int} {k : Nat} (h : mailO l g = some k) : k < l.length := atO_lt l g _ _ _ h
set_option maxHeartbeats 1000000 in
theorem impl_FlagMail.says (h : impl_FlagMail.k M) (b : Box) (hb : BoxIn b) (g n t w : Int) : run M 83 [.a (encBox b), .c (I g), .c (I n), .a [I t, I w]] [] = some (.tup [.a (encBoxO (flagMail b g n t w).1), .c (.bool (flagMail b g n t w).2)], []) := by
  obtain ⟨h0, k1, k2, k3, k4, k5, k6⟩ := h
  have h1 := impl_MailAt.says k1 b g hb.m
  have h2 := impl_BoxOk.says k2 b hb.ok.1 hb.ok.2.1 hb.ok.2.2.1 hb.ok.2.2.2
  have h3 := impl_isFlags.says k3 n
  have h4 := impl_copyBox.says k4 b hb
  have h5 := impl_StampOk.says k5 t w
  refine run_code (b := impl_FlagMail.m) h0 ⟨0, ?_⟩
  have e7 : (b.mails.map encMail).length = b.mails.length := by simp
  have e8 := irow_length b.gone
  unfold flagMail
  cases hk : mailO b.mails g with
  | none =>
    rw [hk] at h1
    simp only [intO] at h1
    simp only [encBox, encBoxO, mails, ints] at *
    generalize boxOk b = ok at *
    generalize b.mails.map encMail = rm at *
    generalize irow b.gone = rg at *
    cases ok <;> simp (maxSteps := 1000000) [exB, impl_FlagMail.m, impl_FlagMail.b, List.range_succ, bs_get, setAt, h1, h2, h4, e7, e8, List.take_of_length_le]
  | some k =>
    have hlt := mailO_lt hk
    rw [hk] at h1
    simp only [intO] at h1
    have h6 := impl_SetFlags.says k6 b.mails[k].flags n t w (hb.f _ (List.getElem_mem hlt))
    have hat : (b.mails.map encMail)[k]'(by rw [e7]; exact hlt) = [I b.mails[k].gid, I b.mails[k].uid, regs b.mails[k].flags, S b.mails[k].text] := by rw [List.getElem_map]
    have hset : (b.mails.set k { b.mails[k] with flags := setFlags b.mails[k].flags n t w }).map encMail = (b.mails.map encMail).set k [I b.mails[k].gid, I b.mails[k].uid, .sl false 3 ((setFlags b.mails[k].flags n t w).map encReg), S b.mails[k].text] := by rw [List.map_set]
    have hng : ¬ (k : Int) < 0 := by omega
    simp only [List.getElem?_eq_getElem hlt]
    cases c1 : boxOk b
    · rw [c1] at h2
      simp only [Bool.false_eq_true, false_and, if_false]
      simp only [encBox, encBoxO, mails, ints] at *
      generalize b.mails.map encMail = rm at *
      generalize irow b.gone = rg at *
      simp (maxSteps := 1000000) [exB, impl_FlagMail.m, impl_FlagMail.b, List.range_succ, bs_get, setAt, h1, h2, h4, e7, e8, List.take_of_length_le]
    rw [c1] at h2
    cases c2 : inR 0 n 7
    · rw [c2] at h3
      simp only [Bool.false_eq_true, false_and, and_false, if_false]
      simp only [encBox, encBoxO, mails, ints] at *
      generalize b.mails.map encMail = rm at *
      generalize irow b.gone = rg at *
      simp (maxSteps := 1000000) [exB, impl_FlagMail.m, impl_FlagMail.b, List.range_succ, bs_get, setAt, h1, h2, h3, h4, e7, e8, hng, List.take_of_length_le]
    rw [c2] at h3
    cases c3 : stampOk t w
    · rw [c3] at h5
      simp only [Bool.false_eq_true, and_false, if_false]
      simp only [encBox, encBoxO, mails, ints] at *
      generalize b.mails.map encMail = rm at *
      generalize irow b.gone = rg at *
      simp (maxSteps := 1000000) [exB, impl_FlagMail.m, impl_FlagMail.b, List.range_succ, bs_get, setAt, h1, h2, h3, h4, h5, e7, e8, hng, List.take_of_length_le]
    rw [c3] at h5
    simp only [and_self, if_true]
    simp only [encBox, encBoxO, mails, ints, hset] at *
    generalize b.mails.map encMail = rm at *
    generalize irow b.gone = rg at *
    simp (maxSteps := 1000000) [exB, impl_FlagMail.m, impl_FlagMail.b, List.range_succ, bs_get, setAt, h1, h2, h3, h4, h5, h6, e7, e8, hng, hlt, hat, List.take_of_length_le]
set_option maxHeartbeats 1000000 in
theorem spec_FlagMail.says (h : spec_FlagMail.k M) (b : Box) (hb : BoxIn b) (g n t w : Int) : run M 84 [.a (encBox b), .c (I g), .c (I n), .a [I t, I w]] [] = some (.tup [.a (encBoxO (flagMail b g n t w).1), .c (.bool (flagMail b g n t w).2)], []) := by
  obtain ⟨h0, k2, k1, k3, k4, k5, k6⟩ := h
  have h1 := spec_MailAt.says k1 b g hb.m
  have h2 := spec_BoxOk.says k2 b hb.ok.1 hb.ok.2.1 hb.ok.2.2.1 hb.ok.2.2.2
  have h3 := spec_l01In.inR k3 n 0 7
  have h4 := spec_l06Copy.says k4 b hb
  have h5 := spec_StampOk.says k5 t w
  refine run_code (b := spec_FlagMail.m) h0 ⟨0, ?_⟩
  have e7 : (b.mails.map encMail).length = b.mails.length := by simp
  have e8 := irow_length b.gone
  unfold flagMail
  cases hk : mailO b.mails g with
  | none =>
    rw [hk] at h1
    simp only [intO] at h1
    simp only [encBox, encBoxO, mails, ints] at *
    generalize boxOk b = ok at *
    generalize b.mails.map encMail = rm at *
    generalize irow b.gone = rg at *
    cases ok <;> simp (maxSteps := 1000000) [exB, spec_FlagMail.m, spec_FlagMail.b, List.range_succ, bs_get, setAt, h1, h2, h4, e7, e8, List.take_of_length_le]
  | some k =>
    have hlt := mailO_lt hk
    rw [hk] at h1
    simp only [intO] at h1
    have h6 := spec_SetFlags.says k6 b.mails[k].flags n t w (hb.f _ (List.getElem_mem hlt))
    have hat : (b.mails.map encMail)[k]'(by rw [e7]; exact hlt) = [I b.mails[k].gid, I b.mails[k].uid, regs b.mails[k].flags, S b.mails[k].text] := by rw [List.getElem_map]
    have hset : (b.mails.set k { b.mails[k] with flags := setFlags b.mails[k].flags n t w }).map encMail = (b.mails.map encMail).set k [I b.mails[k].gid, I b.mails[k].uid, .sl false 3 ((setFlags b.mails[k].flags n t w).map encReg), S b.mails[k].text] := by rw [List.map_set]
    have hng : ¬ (k : Int) < 0 := by omega
    simp only [List.getElem?_eq_getElem hlt]
    cases c1 : boxOk b
    · rw [c1] at h2
      simp only [Bool.false_eq_true, false_and, if_false]
      simp only [encBox, encBoxO, mails, ints] at *
      generalize b.mails.map encMail = rm at *
      generalize irow b.gone = rg at *
      simp (maxSteps := 1000000) [exB, spec_FlagMail.m, spec_FlagMail.b, List.range_succ, bs_get, setAt, h1, h2, h4, e7, e8, List.take_of_length_le]
    rw [c1] at h2
    cases c2 : inR 0 n 7
    · rw [c2] at h3
      simp only [Bool.false_eq_true, false_and, and_false, if_false]
      simp only [encBox, encBoxO, mails, ints] at *
      generalize b.mails.map encMail = rm at *
      generalize irow b.gone = rg at *
      simp (maxSteps := 1000000) [exB, spec_FlagMail.m, spec_FlagMail.b, List.range_succ, bs_get, setAt, h1, h2, h3, h4, e7, e8, hng, List.take_of_length_le]
    rw [c2] at h3
    cases c3 : stampOk t w
    · rw [c3] at h5
      simp only [Bool.false_eq_true, and_false, if_false]
      simp only [encBox, encBoxO, mails, ints] at *
      generalize b.mails.map encMail = rm at *
      generalize irow b.gone = rg at *
      simp (maxSteps := 1000000) [exB, spec_FlagMail.m, spec_FlagMail.b, List.range_succ, bs_get, setAt, h1, h2, h3, h4, h5, e7, e8, hng, List.take_of_length_le]
    rw [c3] at h5
    simp only [and_self, if_true]
    simp only [encBox, encBoxO, mails, ints, hset] at *
    generalize b.mails.map encMail = rm at *
    generalize irow b.gone = rg at *
    simp (maxSteps := 1000000) [exB, spec_FlagMail.m, spec_FlagMail.b, List.range_succ, bs_get, setAt, h1, h2, h3, h4, h5, h6, e7, e8, hng, hlt, hat, List.take_of_length_le]
def addMail (b : Box) (g f : Int) (text : List UInt8) (t w : Int) : Box × Bool :=
  if boxOk b = true ∧ mailO b.mails g = none ∧ ¬ g ∈ b.gone ∧ inR 0 f 7 = true ∧ boxOk { b with mails := b.mails ++ [⟨g, b.next, flagsNew f t w, text⟩], next := b.next + 1 } = true
  then ({ b with mails := b.mails ++ [⟨g, b.next, flagsNew f t w, text⟩], next := b.next + 1 }, true) else (b, false)
set_option maxHeartbeats 2000000 in
theorem impl_AddMail.says (h : impl_AddMail.k M) (b : Box) (hb : BoxIn b) (g f : Int) (text : List UInt8) (t w : Int) :
    run M 70 [.a (encBox b), .c (I g), .c (I f), .c (S text), .a [I t, I w]] [] = some (.tup [.a (encBoxO (addMail b g f text t w).1), .c (.bool (addMail b g f text t w).2)], []) := by
  obtain ⟨h0, k1, k2, k3, k4, k5, k6⟩ := h
  have h1 := impl_MailAt.says k1 b g hb.m
  have h2 := impl_BoxOk.says k2 b hb.ok.1 hb.ok.2.1 hb.ok.2.2.1 hb.ok.2.2.2
  have h3 := impl_isFlags.says k3 f
  have h4 := impl_copyBox.says k4 b hb
  have h5 := slices_Contains_int_int.says k5 b.gone g (by have := hb.g; omega)
  have h6 := impl_FlagsNew.says k6 f t w
  refine run_code (b := impl_AddMail.m) h0 ⟨0, ?_⟩
  have e7 : (b.mails.map encMail).length = b.mails.length := by simp
  have e8 := irow_length b.gone
  unfold addMail
  cases c1 : boxOk b
  · rw [c1] at h2
    simp only [Bool.false_eq_true, false_and, if_false]
    simp only [encBox, encBoxO, mails, ints] at *
    generalize b.mails.map encMail = rm at *
    generalize irow b.gone = rg at *
    simp (maxSteps := 1000000) [exB, impl_AddMail.m, impl_AddMail.b, List.range_succ, bs_get, setAt, h2, h4, e7, e8, List.take_of_length_le]
  rw [c1] at h2
  cases hk : mailO b.mails g with
  | some k =>
    have hge : (0 : Int) ≤ k := by omega
    rw [hk] at h1
    simp only [intO] at h1
    simp only [reduceCtorEq, false_and, and_false, if_false]
    simp only [encBox, encBoxO, mails, ints] at *
    generalize b.mails.map encMail = rm at *
    generalize irow b.gone = rg at *
    simp (maxSteps := 1000000) [exB, impl_AddMail.m, impl_AddMail.b, List.range_succ, bs_get, setAt, h1, h2, h4, e7, e8, hge, List.take_of_length_le]
  | none =>
  rw [hk] at h1
  simp only [intO] at h1
  by_cases c2 : g ∈ b.gone
  · rw [decide_eq_true c2] at h5
    simp only [c2, not_true_eq_false, false_and, and_false, if_false]
    simp only [encBox, encBoxO, mails, ints] at *
    generalize b.mails.map encMail = rm at *
    generalize irow b.gone = rg at *
    simp (maxSteps := 1000000) [exB, impl_AddMail.m, impl_AddMail.b, List.range_succ, bs_get, setAt, h1, h2, h4, h5, e7, e8, List.take_of_length_le]
  rw [decide_eq_false c2] at h5
  cases c3 : inR 0 f 7
  · rw [c3] at h3
    simp only [Bool.false_eq_true, false_and, and_false, if_false]
    simp only [encBox, encBoxO, mails, ints] at *
    generalize b.mails.map encMail = rm at *
    generalize irow b.gone = rg at *
    simp (maxSteps := 1000000) [exB, impl_AddMail.m, impl_AddMail.b, List.range_succ, bs_get, setAt, h1, h2, h3, h4, h5, e7, e8, List.take_of_length_le]
  rw [c3] at h3
  have hnx : b.next ≤ 1000000000 ∧ 0 ≤ b.next := by
    have := (boxOk_vars c1).2.2.2.2.1; exact ⟨this.2, this.1⟩
  have hml := (boxOk_vars c1).2.2.2.2.2.1
  have e9 : IntKind.i64.wrap (b.next + 1) = b.next + 1 := wrap_i64 (by omega) (by omega)
  have hout : BoxIn { b with mails := b.mails ++ [⟨g, b.next, flagsNew f t w, text⟩], next := b.next + 1 } := by
    refine ⟨by simp; omega, hb.g, hb.n, fun m hm => ?_⟩
    rcases List.mem_append.1 hm with hm | hm
    · exact hb.f m hm
    · simp only [List.mem_singleton] at hm
      subst hm; simp [flagsNew]
  have h7 := impl_BoxOk.says k2 _ hout.ok.1 hout.ok.2.1 hout.ok.2.2.1 hout.ok.2.2.2
  have e10 : (b.mails ++ [(⟨g, b.next, flagsNew f t w, text⟩ : Mail)]).map encMail = b.mails.map encMail ++ [[I g, I b.next, .sl false 3 ((flagsNew f t w).map encReg), S text]] := by simp
  have e11 : b.mails.length + 1 ≤ 4294967296 := by omega
  simp only [encBox, mails, e10] at h7
  simp only [hk, c2, not_false_eq_true, true_and]
  cases c4 : boxOk { b with mails := b.mails ++ [⟨g, b.next, flagsNew f t w, text⟩], next := b.next + 1 }
  · rw [c4] at h7
    simp only [Bool.false_eq_true, if_false]
    simp only [encBox, encBoxO, mails, ints] at *
    generalize (flagsNew f t w).map encReg = rf at *
    generalize b.mails.map encMail = rm at *
    generalize irow b.gone = rg at *
    simp (maxSteps := 1000000) [exB, impl_AddMail.m, impl_AddMail.b, List.range_succ, bs_get, setAt, h1, h2, h3, h4, h5, h6, h7, e7, e8, e9, e11, List.take_of_length_le]
  · rw [c4] at h7
    simp only [if_true]
    simp only [encBox, encBoxO, mails, ints, e10] at *
    generalize (flagsNew f t w).map encReg = rf at *
    generalize b.mails.map encMail = rm at *
    generalize irow b.gone = rg at *
    simp (maxSteps := 1000000) [exB, impl_AddMail.m, impl_AddMail.b, List.range_succ, bs_get, setAt, h1, h2, h3, h4, h5, h6, h7, e7, e8, e9, e11, List.take_of_length_le]
set_option maxHeartbeats 2000000 in
theorem spec_AddMail.says (h : spec_AddMail.k M) (b : Box) (hb : BoxIn b) (g f : Int) (text : List UInt8) (t w : Int) :
    run M 81 [.a (encBox b), .c (I g), .c (I f), .c (S text), .a [I t, I w]] [] = some (.tup [.a (encBoxO (addMail b g f text t w).1), .c (.bool (addMail b g f text t w).2)], []) := by
  obtain ⟨h0, k2, k1, k3, k5, k4, k6⟩ := h
  have h1 := spec_MailAt.says k1 b g hb.m
  have h2 := spec_BoxOk.says k2 b hb.ok.1 hb.ok.2.1 hb.ok.2.2.1 hb.ok.2.2.2
  have h3 := spec_l01In.inR k3 f 0 7
  have h4 := spec_l06Copy.says k4 b hb
  have h5 := spec_l06In.says k5 b.gone g (by have := hb.g; omega)
  have h6 := spec_FlagsNew.says k6 f t w
  refine run_code (b := spec_AddMail.m) h0 ⟨0, ?_⟩
  have e7 : (b.mails.map encMail).length = b.mails.length := by simp
  have e8 := irow_length b.gone
  unfold addMail
  cases c1 : boxOk b
  · rw [c1] at h2
    simp only [Bool.false_eq_true, false_and, if_false]
    simp only [encBox, encBoxO, mails, ints] at *
    generalize b.mails.map encMail = rm at *
    generalize irow b.gone = rg at *
    simp (maxSteps := 1000000) [exB, spec_AddMail.m, spec_AddMail.b, List.range_succ, bs_get, setAt, h2, h4, e7, e8, List.take_of_length_le]
  rw [c1] at h2
  cases hk : mailO b.mails g with
  | some k =>
    have hge : (0 : Int) ≤ k := by omega
    rw [hk] at h1
    simp only [intO] at h1
    simp only [reduceCtorEq, false_and, and_false, if_false]
    simp only [encBox, encBoxO, mails, ints] at *
    generalize b.mails.map encMail = rm at *
    generalize irow b.gone = rg at *
    simp (maxSteps := 1000000) [exB, spec_AddMail.m, spec_AddMail.b, List.range_succ, bs_get, setAt, h1, h2, h4, e7, e8, hge, List.take_of_length_le]
  | none =>
  rw [hk] at h1
  simp only [intO] at h1
  by_cases c2 : g ∈ b.gone
  · rw [decide_eq_true c2] at h5
    simp only [c2, not_true_eq_false, false_and, and_false, if_false]
    simp only [encBox, encBoxO, mails, ints] at *
    generalize b.mails.map encMail = rm at *
    generalize irow b.gone = rg at *
    simp (maxSteps := 1000000) [exB, spec_AddMail.m, spec_AddMail.b, List.range_succ, bs_get, setAt, h1, h2, h4, h5, e7, e8, List.take_of_length_le]
  rw [decide_eq_false c2] at h5
  cases c3 : inR 0 f 7
  · rw [c3] at h3
    simp only [Bool.false_eq_true, false_and, and_false, if_false]
    simp only [encBox, encBoxO, mails, ints] at *
    generalize b.mails.map encMail = rm at *
    generalize irow b.gone = rg at *
    simp (maxSteps := 1000000) [exB, spec_AddMail.m, spec_AddMail.b, List.range_succ, bs_get, setAt, h1, h2, h3, h4, h5, e7, e8, List.take_of_length_le]
  rw [c3] at h3
  have hnx : b.next ≤ 1000000000 ∧ 0 ≤ b.next := by
    have := (boxOk_vars c1).2.2.2.2.1; exact ⟨this.2, this.1⟩
  have hml := (boxOk_vars c1).2.2.2.2.2.1
  have e9 : IntKind.i64.wrap (b.next + 1) = b.next + 1 := wrap_i64 (by omega) (by omega)
  have hout : BoxIn { b with mails := b.mails ++ [⟨g, b.next, flagsNew f t w, text⟩], next := b.next + 1 } := by
    refine ⟨by simp; omega, hb.g, hb.n, fun m hm => ?_⟩
    rcases List.mem_append.1 hm with hm | hm
    · exact hb.f m hm
    · simp only [List.mem_singleton] at hm
      subst hm; simp [flagsNew]
  have h7 := spec_BoxOk.says k2 _ hout.ok.1 hout.ok.2.1 hout.ok.2.2.1 hout.ok.2.2.2
  have e10 : (b.mails ++ [(⟨g, b.next, flagsNew f t w, text⟩ : Mail)]).map encMail = b.mails.map encMail ++ [[I g, I b.next, .sl false 3 ((flagsNew f t w).map encReg), S text]] := by simp
  have e11 : b.mails.length + 1 ≤ 4294967296 := by omega
  simp only [encBox, mails, e10] at h7
  simp only [hk, c2, not_false_eq_true, true_and]
  cases c4 : boxOk { b with mails := b.mails ++ [⟨g, b.next, flagsNew f t w, text⟩], next := b.next + 1 }
  · rw [c4] at h7
    simp only [Bool.false_eq_true, if_false]
    simp only [encBox, encBoxO, mails, ints] at *
    generalize (flagsNew f t w).map encReg = rf at *
    generalize b.mails.map encMail = rm at *
    generalize irow b.gone = rg at *
    simp (maxSteps := 1000000) [exB, spec_AddMail.m, spec_AddMail.b, List.range_succ, bs_get, setAt, h1, h2, h3, h4, h5, h6, h7, e7, e8, e9, e11, List.take_of_length_le]
  · rw [c4] at h7
    simp only [if_true]
    simp only [encBox, encBoxO, mails, ints, e10] at *
    generalize (flagsNew f t w).map encReg = rf at *
    generalize b.mails.map encMail = rm at *
    generalize irow b.gone = rg at *
    simp (maxSteps := 1000000) [exB, spec_AddMail.m, spec_AddMail.b, List.range_succ, bs_get, setAt, h1, h2, h3, h4, h5, h6, h7, e7, e8, e9, e11, List.take_of_length_le]
end Mx

namespace Mx
attribute [simp] oTmps
open Go
variable {M : Nat → Option Body}
theorem added_eq {l : List Int} {n : Int} (hl : Asc l) : joinGone l [n] = gput l n :=
  asc_ext (joinGone_asc l [n]) (gput_asc hl) fun z => by rw [joinGone_mem, gput_mem]; simp; exact or_comm
theorem impl_added.says (h : impl_added.k M) (a : List Int) (n : Int) (ha : a.length ≤ 1048576) : run M 163 [.c (ints a), .c (I n)] [] = some (.c (.sl true 1 (irow (joinGone a [n]))), []) := by
  obtain ⟨h0, k1, k2, k3⟩ := h
  have h1 := impl_copyInts.says k1 a ha
  have hab : (a ++ [n]).length ≤ 4294967296 := by simp; omega
  have h2 := run_sort k2 (a ++ [n]) hab
  have hsl : (sortI (a ++ [n])).length = (a ++ [n]).length := by simp [sortI]
  have h3 := run_compact k3 (sortI (a ++ [n])) (by rw [hsl]; exact hab)
  rw [joinGone_sort] at h3
  have hjl : (joinGone a [n]).length ≤ (a ++ [n]).length := by
    have := gfold_len (a ++ [n]) []; simp only [joinGone]; simpa using this
  refine run_code (b := impl_added.m) h0 ⟨0, ?_⟩
  rw [hsl] at h3
  have e1 : irow (a ++ [n]) = irow a ++ [[I n]] := irow_snoc a n
  have e2 : irow (joinGone a [n] ++ List.replicate ((a ++ [n]).length - (joinGone a [n]).length) 0) = irow (joinGone a [n]) ++ irow (List.replicate ((a ++ [n]).length - (joinGone a [n]).length) 0) := by simp [irow]
  rw [e1] at h2
  rw [e2] at h3
  simp only [List.length_append, List.length_singleton] at h2 h3 hab hjl
  have l1 := irow_length a
  have l3 := irow_length (joinGone a [n])
  have l4 : (irow (List.replicate (a.length + 1 - (joinGone a [n]).length) 0)).length = a.length + 1 - (joinGone a [n]).length := by simp [irow]
  have s1 := irow_scalar (sortI (a ++ [n]))
  have s2 := irow_scalar (joinGone a [n])
  have l5 := irow_length (sortI (a ++ [n]))
  rw [hsl] at l5
  simp only [List.length_append, List.length_singleton] at l5
  simp only [ints] at h1 ⊢
  generalize irow (List.replicate (a.length + 1 - (joinGone a [n]).length) 0) = rz at *
  generalize irow (sortI (a ++ [n])) = rs at *
  generalize joinGone a [n] = j at *
  generalize irow j = rj at *
  have e5 : a.length ≤ 4294967296 := by omega
  have e6 : j.length ≤ rj.length + rz.length := by omega
  generalize irow a = ra at *
  simp (maxSteps := 1000000) [exB, impl_added.m, impl_added.b, List.range_succ, bs_get, setAt, h1, h2, h3, hab, l1, l3, l4, l5, e5, e6, s1, s2, List.take_of_length_le]
theorem last_of {α : Type} (x : α) (q : List α) : ∃ q' y, x :: q = q' ++ [y] ∧ q'.length = q.length := by
  refine ⟨(x :: q).dropLast, (x :: q).getLast (by simp), (List.dropLast_concat_getLast (by simp)).symm, by simp⟩
theorem slices_Delete_mails (h : slices_Delete_impl_Mail_impl_Mail.k M) (p : List (List T)) (x : List T) (q : List (List T)) (hl : p.length + (q.length + 1) ≤ 1048576) :
    run M 162 [.c (.row 0 0 0 (p.length + (q.length + 1))), .c (I p.length), .c (I ((p.length : Int) + 1))] [(0, ⟨0, 4, true, false, p ++ x :: q⟩)] =
      some (.c (.row 0 0 0 (p.length + q.length)), [(0, ⟨0, 4, true, false, p ++ q ++ [mzero]⟩)]) := by
  refine run_code (b := slices_Delete_impl_Mail_impl_Mail.m) h ⟨0, ?_⟩
  obtain ⟨q', y, hy, hq'⟩ := last_of x q
  have g1 : (0 : Int) ≤ (p.length : Int) + 1 := by omega
  have g2 : ¬ (p.length : Int) = (p.length : Int) + 1 := by omega
  have g3 : (p ++ x :: q).take p.length = p := by simp
  have g4 : (p ++ x :: q).drop (p.length + 1) = q := by simp
  have g5 : (p ++ x :: q).drop (p.length + q.length) = [y] := by
    rw [hy, ← hq', List.drop_append]; simp
  have g6 : p.length + (q.length + 1) - (p.length + 1) = q.length := by omega
  have g7 : (p ++ x :: q).length = p.length + (q.length + 1) := by simp
  have g8 : p.length + (q.length + 1) - (p.length + q.length) = 1 := by omega
  have g9 : p.length + q.length ≤ p.length + (q.length + 1) := by omega
  have g10 : p.length + q.length ≤ 4294967296 := by omega
  have g11 : ¬ p.length + q.length = p.length + (q.length + 1) := by omega
  have g12 : (p ++ q ++ [y]).length = p.length + (q.length + 1) := by simp
  have g13 : (p ++ q ++ [y]).take (p.length + q.length) = p ++ q := by rw [← List.length_append, List.take_left]
  have g19 : (1 : Int) ≤ (q.length : Int) + 1 := by omega
  have g20 : 1 ≤ q.length + 1 := by omega
  have g14 : (p ++ q ++ [y]).drop (p.length + (q.length + 1)) = [] := List.drop_eq_nil_of_le (by rw [g12]; omega)
  have g15 : p.length + 1 ≤ p.length + (q.length + 1) := by omega
  have g16 : p.length + q.length + 1 = p.length + (q.length + 1) := by omega
  have g17 : (0 : Int) ≤ (p.length : Int) + (q.length : Int) := by omega
  have g18 : (0 : Int) ≤ (p.length : Int) + ((q.length : Int) + 1) := by omega
  have g21 : p.length + 1 + q.length ≤ p.length + (q.length + 1) := by omega
  have g22 : 1 + q.length ≤ q.length + 1 := by omega
  generalize hR : p ++ x :: q = R at *
  simp only [List.append_assoc] at g12 g13 g14
  by_cases hq0 : q = []
  · subst hq0
    by_cases hz : p.length = 0
    · have hp : p = [] := List.eq_nil_of_length_eq_zero hz
      subst hp
      simp at g1 g2 g3 g4 g5 g6 g7 g8 g9 g10 g11 g12 g13 g14 g15 g16 g17 g18
      simp (maxSteps := 1000000) [exB, slices_Delete_impl_Mail_impl_Mail.m, slices_Delete_impl_Mail_impl_Mail.b, List.range_succ, bs_get, setAt, g1, g2, g3, g4, g5, g6, g7, g8, g9, g10, g11, g12, g13, g14, g15, g16, g17, g18, g19, g20, List.take_of_length_le]
    · simp at g1 g2 g3 g4 g5 g6 g7 g8 g9 g10 g11 g12 g13 g14 g15 g16 g17 g18
      simp (maxSteps := 1000000) [exB, slices_Delete_impl_Mail_impl_Mail.m, slices_Delete_impl_Mail_impl_Mail.b, List.range_succ, bs_get, setAt, g1, g2, g3, g4, g5, g6, g7, g8, g9, g10, g11, g12, g13, g14, g15, g16, g17, g18, g19, g20, hz, List.take_of_length_le]
  · have g23 : ((p.length : Int) + (q.length : Int)).toNat = p.length + q.length := by omega
    have g24 : ((p.length : Int) + ((q.length : Int) + 1)).toNat = p.length + (q.length + 1) := by omega
    have g25 : max ((p.length : Int) + (q.length : Int)) 0 ≤ (p.length : Int) + ((q.length : Int) + 1) := by omega
    by_cases hz : p.length = 0
    · have hp : p = [] := List.eq_nil_of_length_eq_zero hz
      subst hp
      simp at g1 g2 g3 g4 g5 g6 g7 g8 g9 g10 g11 g12 g13 g14 g15 g16 g17 g18
      simp (maxSteps := 1000000) [exB, slices_Delete_impl_Mail_impl_Mail.m, slices_Delete_impl_Mail_impl_Mail.b, List.range_succ, bs_get, setAt, g1, g2, g3, g4, g5, g6, g7, g8, g9, g10, g11, g12, g13, g14, g15, g16, g17, g18, g19, g20, g22, hq0, List.take_of_length_le]
    · simp (maxSteps := 1000000) [exB, slices_Delete_impl_Mail_impl_Mail.m, slices_Delete_impl_Mail_impl_Mail.b, List.range_succ, bs_get, setAt, g1, g2, g3, g4, g5, g6, g7, g8, g9, g10, g11, g12, g13, g14, g15, g16, g17, g18, g19, g20, g21, g23, g24, g25, hz, hq0, List.take_of_length_le]
end Mx

namespace Mx
open Go
variable {M : Nat → Option Body}
theorem gidsOk_asc {l : List Int} {most : Int} (h : gidsOk l most = true) : Asc l := by
  simp only [gidsOk, Bool.and_eq_true, decide_eq_true_eq, Option.isNone_iff_eq_none, firstN_isNone] at h
  have hn : ∀ j (hj : j < l.length), ∀ i (hi : i < j), l[i]'(by omega) < l[j] := by
    intro j
    induction j with
    | zero => intro _ i hi; omega
    | succ j ih =>
      intro hj i hi
      have := h.1 (j + 1) hj
      rw [badGid_at hj] at this
      simp at this
      by_cases e : i = j
      · subst e; exact this.2
      · exact Int.lt_trans (ih (by omega) i (by omega)) this.2
  exact List.pairwise_iff_getElem.2 fun i j hi hj hij => hn j hj i hij
theorem boxOk_gone {b : Box} (h : boxOk b = true) : gidsOk b.gone 40 = true := by
  simp only [boxOk, Bool.and_eq_true] at h
  exact h.1.2
def takeOut (b : Box) (g : Int) : Box × Bool := match mailO b.mails g with
  | none => (b, false)
  | some k => if boxOk b = true ∧ b.gone.length < 40 then ({ b with mails := b.mails.take k ++ b.mails.drop (k + 1), gone := gput b.gone g }, true) else (b, false)
theorem slices_Delete_at (h : slices_Delete_impl_Mail_impl_Mail.k M) (r : List (List T)) (k : Nat) (hk : k < r.length) (hl : r.length ≤ 1048576) :
    run M 162 [.c (.row 0 0 0 r.length), .c (I k), .c (I ((k : Int) + 1))] [(0, ⟨0, 4, true, false, r⟩)] =
      some (.c (.row 0 0 0 (r.length - 1)), [(0, ⟨0, 4, true, false, r.take k ++ r.drop (k + 1) ++ [mzero]⟩)]) := by
  have e : r.take k ++ r[k] :: r.drop (k + 1) = r := by simp
  have := slices_Delete_mails h (r.take k) r[k] (r.drop (k + 1)) (by simp; omega)
  rw [e] at this
  have e1 : (r.take k).length = k := by simp; omega
  have e2 : (r.drop (k + 1)).length = r.length - (k + 1) := by simp
  rw [e1, e2] at this
  have e3 : k + (r.length - (k + 1) + 1) = r.length := by omega
  have e4 : k + (r.length - (k + 1)) = r.length - 1 := by omega
  rw [e3, e4] at this
  exact this
set_option maxHeartbeats 1000000 in
theorem impl_TakeOut.says (h : impl_TakeOut.k M) (b : Box) (hb : BoxIn b) (g : Int) : run M 73 [.a (encBox b), .c (I g)] [] = some (.tup [.a (encBoxO (takeOut b g).1), .c (.bool (takeOut b g).2)], []) := by
  obtain ⟨h0, k1, k2, k3, k4, k5⟩ := h
  have h1 := impl_MailAt.says k1 b g hb.m
  have h2 := impl_BoxOk.says k2 b hb.ok.1 hb.ok.2.1 hb.ok.2.2.1 hb.ok.2.2.2
  have h4 := impl_copyBox.says k3 b hb
  have h5 := impl_added.says k5 b.gone g hb.g
  refine run_code (b := impl_TakeOut.m) h0 ⟨0, ?_⟩
  have e7 : (b.mails.map encMail).length = b.mails.length := by simp
  have e8 := irow_length b.gone
  unfold takeOut
  cases hk : mailO b.mails g with
  | none =>
    rw [hk] at h1
    simp only [intO] at h1
    simp only [encBox, encBoxO, mails, ints] at *
    generalize boxOk b = ok at *
    generalize b.mails.map encMail = rm at *
    generalize irow b.gone = rg at *
    cases ok <;> simp (maxSteps := 1000000) [exB, impl_TakeOut.m, impl_TakeOut.b, List.range_succ, bs_get, setAt, h1, h2, h4, e7, e8, List.take_of_length_le]
  | some k =>
    have hlt := mailO_lt hk
    rw [hk] at h1
    simp only [intO] at h1
    have hng : ¬ (k : Int) < 0 := by omega
    cases c1 : boxOk b
    · rw [c1] at h2
      simp only [Bool.false_eq_true, false_and, if_false]
      simp only [encBox, encBoxO, mails, ints] at *
      generalize b.mails.map encMail = rm at *
      generalize irow b.gone = rg at *
      simp (maxSteps := 1000000) [exB, impl_TakeOut.m, impl_TakeOut.b, List.range_succ, bs_get, setAt, h1, h2, h4, e7, e8, List.take_of_length_le]
    rw [c1] at h2
    have h40 := (boxOk_vars c1).2.2.2.2.2.2.1
    have hml := (boxOk_vars c1).2.2.2.2.2.1
    by_cases c2 : b.gone.length < 40
    · have n2 : ¬ b.gone.length = 40 := by omega
      have n3 : ¬ (b.gone.length : Int) = 40 := by omega
      simp only [c2, and_self, if_true]
      rw [added_eq (gidsOk_asc (boxOk_gone c1))] at h5
      have h6 := slices_Delete_at k4 (b.mails.map encMail) k (by rw [e7]; exact hlt) (by rw [e7]; exact hb.m)
      rw [e7] at h6
      have e9 := wrap1 (i := k) (by omega)
      have e10 : (b.mails.take k ++ b.mails.drop (k + 1)).map encMail = (b.mails.map encMail).take k ++ (b.mails.map encMail).drop (k + 1) := by simp
      have e11 : ((b.mails.map encMail).take k ++ ((b.mails.map encMail).drop (k + 1) ++ [mzero])).take (b.mails.length - 1) = (b.mails.map encMail).take k ++ (b.mails.map encMail).drop (k + 1) := by
        rw [← List.append_assoc]; exact List.take_left' (by simp; omega)
      have e12 := irow_length (gput b.gone g)
      have e13 : b.mails.length ≤ min k b.mails.length + (b.mails.length - (k + 1) + 1) + 1 := by omega
      simp only [encBox, encBoxO, mails, ints, e10] at *
      generalize b.mails.map encMail = rm at *
      generalize irow b.gone = rg at *
      generalize irow (gput b.gone g) = ru at *
      simp (maxSteps := 1000000) [exB, impl_TakeOut.m, impl_TakeOut.b, List.range_succ, bs_get, setAt, h1, h2, h4, h5, h6, e7, e8, e9, e11, e12, e13, hng, n2, n3, List.take_of_length_le]
    · have n2 : b.gone.length = 40 := by omega
      have n3 : (b.gone.length : Int) = 40 := by omega
      simp only [c2, and_false, if_false]
      simp only [encBox, encBoxO, mails, ints] at *
      generalize b.mails.map encMail = rm at *
      generalize irow b.gone = rg at *
      simp (maxSteps := 1000000) [exB, impl_TakeOut.m, impl_TakeOut.b, List.range_succ, bs_get, setAt, h1, h2, h4, e7, e8, n2, n3, hng, List.take_of_length_le]
set_option maxHeartbeats 1000000 in
theorem spec_TakeOut.says (h : spec_TakeOut.k M) (b : Box) (hb : BoxIn b) (g : Int) : run M 86 [.a (encBox b), .c (I g)] [] = some (.tup [.a (encBoxO (takeOut b g).1), .c (.bool (takeOut b g).2)], []) := by
  obtain ⟨h0, k2, k1, k5, k3⟩ := h
  have h1 := spec_MailAt.says k1 b g hb.m
  have h2 := spec_BoxOk.says k2 b hb.ok.1 hb.ok.2.1 hb.ok.2.2.1 hb.ok.2.2.2
  have h4 := spec_l06Copy.says k3 b hb
  have h5 := spec_l06Put.says k5 b.gone g (by have := hb.g; omega)
  refine run_code (b := spec_TakeOut.m) h0 ⟨0, ?_⟩
  have e7 : (b.mails.map encMail).length = b.mails.length := by simp
  have e8 := irow_length b.gone
  unfold takeOut
  cases hk : mailO b.mails g with
  | none =>
    rw [hk] at h1
    simp only [intO] at h1
    simp only [encBox, encBoxO, mails, ints] at *
    generalize boxOk b = ok at *
    generalize b.mails.map encMail = rm at *
    generalize irow b.gone = rg at *
    cases ok <;> simp (maxSteps := 1000000) [exB, spec_TakeOut.m, spec_TakeOut.b, List.range_succ, bs_get, setAt, h1, h2, h4, e7, e8, List.take_of_length_le]
  | some k =>
    have hlt := mailO_lt hk
    rw [hk] at h1
    simp only [intO] at h1
    have hng : ¬ (k : Int) < 0 := by omega
    cases c1 : boxOk b
    · rw [c1] at h2
      simp only [Bool.false_eq_true, false_and, if_false]
      simp only [encBox, encBoxO, mails, ints] at *
      generalize b.mails.map encMail = rm at *
      generalize irow b.gone = rg at *
      simp (maxSteps := 1000000) [exB, spec_TakeOut.m, spec_TakeOut.b, List.range_succ, bs_get, setAt, h1, h2, h4, e7, e8, List.take_of_length_le]
    rw [c1] at h2
    have h40 := (boxOk_vars c1).2.2.2.2.2.2.1
    have hml := (boxOk_vars c1).2.2.2.2.2.1
    by_cases c2 : b.gone.length < 40
    · have n2 : ¬ 40 ≤ b.gone.length := by omega
      have n3 : ¬ (40 : Int) ≤ (b.gone.length : Int) := by omega
      simp only [c2, and_self, if_true]
      have e9 := wrap1 (i := k) (by omega)
      have e10 : (b.mails.take k ++ b.mails.drop (k + 1)).map encMail = (b.mails.map encMail).take k ++ (b.mails.map encMail).drop (k + 1) := by simp
      have e14 : min k b.mails.length = k := by omega
      have e12 := irow_length (gput b.gone g)
      have e13 : b.mails.length ≤ min k b.mails.length + (b.mails.length - (k + 1) + 1) + 1 := by omega
      simp only [encBox, encBoxO, mails, ints, e10] at *
      generalize b.mails.map encMail = rm at *
      generalize irow b.gone = rg at *
      generalize irow (gput b.gone g) = ru at *
      have f1 : k ≤ b.mails.length := by omega
      have f2 : k + 1 ≤ b.mails.length := by omega
      have f3 : (0 : Int) ≤ k := by omega
      have f4 : (0 : Int) ≤ (k : Int) + 1 := by omega
      have f5 : (k : Int) ≤ b.mails.length := by omega
      have f6 : (k : Int) + 1 ≤ b.mails.length := by omega
      have f7 : ((k : Int) + 1).toNat = k + 1 := by omega
      have f8 : rm.take b.mails.length = rm := List.take_of_length_le (by omega)
      have f9 : k ≤ 4294967296 := by omega
      have f10 : b.mails.length ≤ 4294967296 := by omega
      have f11 : k + (b.mails.length - (k + 1)) ≤ 4294967296 := by omega
      have f13 : IntKind.i64.wrap 1 = 1 := wrap_i64 (by omega) (by omega)
      have f14 : b.mails.length ≤ 4294967297 := by omega
      have f12 : rm.length - (k + 1) ≤ 4294967296 := by omega
      by_cases z : k = 0
      · subst z
        by_cases y : b.mails.length = 1
        · have y2 : rm.drop 1 = [] := List.drop_eq_nil_of_le (by omega)
          simp (maxSteps := 1000000) [exB, spec_TakeOut.m, spec_TakeOut.b, List.range_succ, bs_get, setAt, h1, h2, h4, h5, e7, e8, e9, e12, n2, n3, f13, y, y2, List.take_of_length_le]
        · have y1 : ¬ 1 = b.mails.length := by omega
          simp (maxSteps := 1000000) [exB, spec_TakeOut.m, spec_TakeOut.b, List.range_succ, bs_get, setAt, h1, h2, h4, h5, e7, e8, e9, e12, n2, n3, f1, f2, f3, f4, f5, f6, f7, f8, f9, f10, f11, f12, f13, f14, y, y1, List.take_of_length_le]
      · have z0 : ¬ 0 = k := by omega
        by_cases y : b.mails.length = k + 1
        · have y2 : rm.drop (k + 1) = [] := List.drop_eq_nil_of_le (by omega)
          simp (maxSteps := 1000000) [exB, spec_TakeOut.m, spec_TakeOut.b, List.range_succ, bs_get, setAt, h1, h2, h4, h5, e7, e8, e9, e12, e14, hng, n2, n3, f1, f2, f3, f4, f5, f6, f7, f8, f9, f10, f11, f12, z, z0, y, y2, List.take_of_length_le]
        · have y1 : ¬ k + 1 = b.mails.length := by omega
          simp (maxSteps := 1000000) [exB, spec_TakeOut.m, spec_TakeOut.b, List.range_succ, bs_get, setAt, h1, h2, h4, h5, e7, e8, e9, e12, e14, hng, n2, n3, f1, f2, f3, f4, f5, f6, f7, f8, f9, f10, f11, f12, z, z0, y, y1, List.take_of_length_le]
    · have n2 : 40 ≤ b.gone.length := by omega
      have n3 : (40 : Int) ≤ (b.gone.length : Int) := by omega
      simp only [c2, and_false, if_false]
      simp only [encBox, encBoxO, mails, ints] at *
      generalize b.mails.map encMail = rm at *
      generalize irow b.gone = rg at *
      simp (maxSteps := 1000000) [exB, spec_TakeOut.m, spec_TakeOut.b, List.range_succ, bs_get, setAt, h1, h2, h4, e7, e8, n2, n3, hng, List.take_of_length_le]
end Mx

namespace Mx
open Go
theorem atO_some (l : List Mail) (g : Int) : ∀ d i k, atO l g d i = some k → i ≤ k ∧ ∃ h : k < l.length, (l[k]).gid = g ∧ ∀ j, i ≤ j → (hj : j < k) → (l[j]'(by omega)).gid ≠ g
  | 0, i, k, h => by simp [atO] at h
  | d + 1, i, k, h => by
    simp only [atO] at h
    split at h
    · rename_i hi
      split at h
      · rename_i e
        cases h
        exact ⟨Nat.le_refl _, hi, e, fun j h1 h2 => by omega⟩
      · rename_i e
        obtain ⟨h1, h2, h3, h4⟩ := atO_some l g d (i + 1) k h
        refine ⟨by omega, h2, h3, fun j hj hk => ?_⟩
        by_cases q : j = i
        · subst q; exact e
        · exact h4 j (by omega) hk
    · cases h
theorem atO_none (l : List Mail) (g : Int) : ∀ d i, atO l g d i = none → ∀ j, i ≤ j → j < i + d → (hj : j < l.length) → (l[j]).gid ≠ g
  | 0, i, h, j, h1, h2, hj => by omega
  | d + 1, i, h, j, h1, h2, hj => by
    simp only [atO] at h
    rw [dif_pos (by omega)] at h
    split at h
    · cases h
    · rename_i e
      by_cases q : j = i
      · subst q; exact e
      · exact atO_none l g d (i + 1) h j (by omega) (by omega) hj
theorem mailO_some {l : List Mail} {g : Int} {k : Nat} (h : mailO l g = some k) : ∃ h : k < l.length, (l[k]).gid = g ∧ ∀ j, (hj : j < k) → (l[j]'(by omega)).gid ≠ g := by
  obtain ⟨_, h1, h2, h3⟩ := atO_some l g _ _ _ h
  exact ⟨h1, h2, fun j hj => h3 j (Nat.zero_le _) hj⟩
theorem mailO_none {l : List Mail} {g : Int} : mailO l g = none ↔ ∀ m ∈ l, m.gid ≠ g := by
  constructor
  · intro h m hm
    obtain ⟨j, hj, rfl⟩ := List.getElem_of_mem hm
    exact atO_none l g _ _ h j (Nat.zero_le _) (by omega) hj
  · intro h
    cases q : mailO l g with
    | none => rfl
    | some k =>
      obtain ⟨h1, h2, _⟩ := mailO_some q
      exact (h _ (List.getElem_mem h1) h2).elim
theorem mailO_at {l : List Mail} {k : Nat} (hk : k < l.length) (h : ∀ j, (hj : j < k) → (l[j]'(by omega)).gid ≠ (l[k]).gid) : mailO l (l[k]).gid = some k := by
  cases q : mailO l (l[k]).gid with
  | none => exact (mailO_none.1 q _ (List.getElem_mem hk) rfl).elim
  | some k' =>
    obtain ⟨h1, h2, h3⟩ := mailO_some q
    rcases Nat.lt_trichotomy k' k with c | c | c
    · exact (h k' c h2).elim
    · rw [c]
    · exact (h3 k c rfl).elim
/-- a right box -/
structure Good (b : Box) : Prop where
  gid : 1 ≤ b.gid ∧ b.gid ≤ 9999
  name : nameOk b.name = true
  st : stampOk b.time b.who = true
  next : 1 ≤ b.next ∧ b.next ≤ 10000
  len : b.mails.length ≤ 10
  gone : Asc b.gone
  goneR : ∀ g ∈ b.gone, 1 ≤ g ∧ g ≤ 9999
  goneL : b.gone.length ≤ 40
  mail : ∀ m ∈ b.mails, mailOk m = true ∧ m.uid < b.next ∧ ¬ m.gid ∈ b.gone
  uids : b.mails.Pairwise (fun a c => a.uid < c.uid)
  gids : b.mails.Pairwise (fun a c => a.gid ≠ c.gid)
theorem step_asc {l : List Int} (h : ∀ j (hj : j + 1 < l.length), l[j] < l[j + 1]) : Asc l := by
  have hn : ∀ j (hj : j < l.length), ∀ i (hi : i < j), l[i]'(by omega) < l[j] := by
    intro j
    induction j with
    | zero => intro _ i hi; omega
    | succ j ih =>
      intro hj i hi
      by_cases e : i = j
      · subst e; exact h i hj
      · exact Int.lt_trans (ih (by omega) i (by omega)) (h j hj)
  exact List.pairwise_iff_getElem.2 fun i j hi hj hij => hn j hj i hij
theorem gidsOk_iff {l : List Int} {most : Int} : gidsOk l most = true ↔ Asc l ∧ (∀ g ∈ l, 1 ≤ g ∧ g ≤ 9999) ∧ (l.length : Int) ≤ most := by
  constructor
  · intro h
    exact ⟨gidsOk_asc h, (gidsOk_vars h).2, (gidsOk_vars h).1⟩
  · rintro ⟨h1, h2, h3⟩
    simp only [gidsOk, Bool.and_eq_true, decide_eq_true_eq, Option.isNone_iff_eq_none, firstN_isNone]
    refine ⟨fun j hj => ?_, h3⟩
    rw [badGid_at hj]
    have q1 := h2 _ (List.getElem_mem hj)
    simp only [Bool.or_eq_false_iff, Bool.not_eq_eq_eq_not, Bool.not_false, Bool.and_eq_false_imp, decide_eq_true_eq, decide_eq_false_iff_not]
    refine ⟨inR_iff.2 q1, fun h0 => ?_⟩
    have := List.pairwise_iff_getElem.1 h1 (j - 1) j (by omega) hj (by omega)
    omega
theorem boxOk_iff {b : Box} : boxOk b = true ↔ Good b := by
  constructor
  · intro h
    have hv := boxOk_vars h
    have hg := gidsOk_iff.1 (boxOk_gone h)
    simp only [boxOk, Bool.and_eq_true, decide_eq_true_eq, Option.isNone_iff_eq_none, firstN_isNone] at h
    obtain ⟨⟨⟨⟨⟨⟨h1, h2⟩, h3⟩, h4⟩, h5⟩, h6⟩, h7⟩ := h
    have key : ∀ i (hi : i < b.mails.length), mailOk b.mails[i] = true ∧ b.mails[i].uid < b.next ∧ (0 < i → b.mails[i - 1].uid < b.mails[i].uid) ∧ mailO b.mails b.mails[i].gid = some i ∧ ¬ b.mails[i].gid ∈ b.gone := by
      intro i hi
      have := h7 i hi
      rw [badMail_at hi] at this
      simp only [Bool.or_eq_false_iff, Bool.not_eq_eq_eq_not, Bool.not_false, Bool.and_eq_false_imp, decide_eq_true_eq, decide_eq_false_iff_not] at this
      obtain ⟨⟨⟨⟨q1, q2⟩, q3⟩, q4⟩, q5⟩ := this
      refine ⟨q1, by omega, fun h0 => by have := q3 h0; omega, ?_, q5⟩
      cases e : mailO b.mails b.mails[i].gid with
      | none => rw [e] at q4; simp only [intO] at q4; omega
      | some k => rw [e] at q4; simp only [intO] at q4; rw [show k = i by omega]
    refine ⟨inR_iff.1 h1, h2, h3, inR_iff.1 h4, h5, hg.1, hg.2.1, by omega, fun m hm => ?_, ?_, ?_⟩
    · obtain ⟨j, hj, rfl⟩ := List.getElem_of_mem hm
      have := key j hj
      exact ⟨this.1, this.2.1, this.2.2.2.2⟩
    · have ha : Asc (b.mails.map (·.uid)) := step_asc fun j hj => by
        simp only [List.length_map] at hj
        have := (key (j + 1) hj).2.2.1 (by omega)
        simpa using this
      exact List.pairwise_map.1 ha
    · refine List.pairwise_iff_getElem.2 fun i j hi hj hij e => ?_
      obtain ⟨_, _, h3⟩ := mailO_some (key j hj).2.2.2.1
      exact h3 i hij e
  · intro h
    simp only [boxOk, Bool.and_eq_true, decide_eq_true_eq, Option.isNone_iff_eq_none, firstN_isNone]
    refine ⟨⟨⟨⟨⟨⟨inR_iff.2 h.gid, h.name⟩, h.st⟩, inR_iff.2 h.next⟩, h.len⟩, gidsOk_iff.2 ⟨h.gone, h.goneR, by have := h.goneL; omega⟩⟩, fun i hi => ?_⟩
    rw [badMail_at hi]
    obtain ⟨q1, q2, q3⟩ := h.mail _ (List.getElem_mem hi)
    simp only [Bool.or_eq_false_iff, Bool.not_eq_eq_eq_not, Bool.not_false, Bool.and_eq_false_imp, decide_eq_true_eq, decide_eq_false_iff_not]
    refine ⟨⟨⟨⟨q1, by omega⟩, fun h0 => ?_⟩, ?_⟩, q3⟩
    · have := List.pairwise_iff_getElem.1 h.uids (i - 1) i (by omega) hi (by omega)
      omega
    · rw [mailO_at hi fun j hj => List.pairwise_iff_getElem.1 h.gids j i (by omega) hi hj]
      rfl
end Mx

namespace Mx
open Go
/-- a drawn box after i turns -/
structure Drawn (i : Nat) (b : Box) : Prop where
  good : Good b
  m : ∀ m ∈ b.mails, 10 ≤ m.gid ∧ m.gid ≤ 18
  g : ∀ g ∈ b.gone, 10 ≤ g ∧ g ≤ 18
  nx : b.next ≤ 4 + i
  gl : b.gone.length ≤ i
theorem Drawn.mono {i j : Nat} {b : Box} (h : Drawn i b) (hij : i ≤ j) : Drawn j b := ⟨h.good, h.m, h.g, by have := h.nx; omega, by have := h.gl; omega⟩
theorem Good.inB {b : Box} (h : Good b) : BoxIn b :=
  ⟨by have := h.len; omega, by have := h.goneL; omega, by have := (nameOk_len h.name).2; omega, fun m hm => by have := (mailOk_vars (h.mail m hm).1).2.2.1; omega⟩
theorem drawn_add {i : Nat} {b : Box} (h : Drawn i b) {g : Int} (hg : 10 ≤ g ∧ g ≤ 18) (f : Int) (x : List UInt8) (t w : Int) : Drawn (i + 1) (addMail b g f x t w).1 := by
  unfold addMail
  split
  · rename_i c
    refine ⟨boxOk_iff.1 c.2.2.2.2, fun m hm => ?_, h.g, by have := h.nx; simp only; omega, by have := h.gl; simp only; omega⟩
    rcases List.mem_append.1 hm with q | q
    · exact h.m m q
    · simp only [List.mem_singleton] at q; subst q; exact hg
  · exact h.mono (by omega)
theorem gput_len (l : List Int) (x : Int) : (gput l x).length ≤ l.length + 1 := by
  have h : ∀ l : List Int, (l.filter (fun y => decide (y < x))).length + (l.filter (fun y => decide (x < y))).length ≤ l.length := by
    intro l
    induction l with
    | nil => simp
    | cons a l ih =>
      simp only [List.filter_cons]
      by_cases c1 : a < x
      · have c2 : ¬ x < a := by omega
        simp [c1, c2]; omega
      · by_cases c2 : x < a
        · simp [c1, c2]; omega
        · simp [c1, c2]; omega
  have := h l
  simp only [gput, List.length_append, List.length_singleton]; omega
theorem sub_take_drop {α : Type} (l : List α) (k : Nat) : (l.take k ++ l.drop (k + 1)).Sublist l := by
  have e : l = l.take k ++ l.drop k := (List.take_append_drop k l).symm
  have h1 : (l.drop (k + 1)).Sublist (l.drop k) := by rw [← List.drop_drop]; exact List.drop_sublist 1 _
  have h2 := List.Sublist.append (List.Sublist.refl (l.take k)) h1
  rw [← e] at h2; exact h2
theorem good_take {b : Box} (h : Good b) {k : Nat} (hk : k < b.mails.length) (h40 : b.gone.length < 40) :
    Good { b with mails := b.mails.take k ++ b.mails.drop (k + 1), gone := gput b.gone (b.mails[k]).gid } := by
  have hs := sub_take_drop b.mails k
  have hq := h.mail _ (List.getElem_mem hk)
  have hv := (mailOk_vars hq.1).1
  have hgid : 1 ≤ (b.mails[k]).gid ∧ (b.mails[k]).gid ≤ 9999 := by
    have := hq.1
    simp only [mailOk, Bool.and_eq_true] at this
    exact inR_iff.1 this.1.1.1
  refine ⟨h.gid, h.name, h.st, h.next, by have := hs.length_le; have := h.len; simp only; omega, gput_asc h.gone, fun g hg => ?_, by have := gput_len b.gone (b.mails[k]).gid; simp only; omega, fun m hm => ?_, h.uids.sublist hs, h.gids.sublist hs⟩
  · rcases gput_mem.1 hg with q | q
    · rw [q]; exact hgid
    · exact h.goneR g q
  · have hm' := h.mail m (hs.subset hm)
    refine ⟨hm'.1, hm'.2.1, fun c => ?_⟩
    rcases gput_mem.1 c with q | q
    · rcases List.mem_append.1 hm with z | z
      · obtain ⟨j, hj, rfl⟩ := List.getElem_of_mem z
        rw [List.getElem_take] at q
        have hjk : j < k := by simp at hj; omega
        exact List.pairwise_iff_getElem.1 h.gids j k (by omega) hk hjk q
      · obtain ⟨j, hj, rfl⟩ := List.getElem_of_mem z
        rw [List.getElem_drop] at q
        exact List.pairwise_iff_getElem.1 h.gids k (k + 1 + j) hk (by simp at hj; omega) (by omega) q.symm
    · exact hm'.2.2 q
theorem drawn_take {i : Nat} {b : Box} (h : Drawn i b) {g : Int} (hg : 10 ≤ g ∧ g ≤ 18) : Drawn (i + 1) (takeOut b g).1 := by
  unfold takeOut
  split
  · exact h.mono (by omega)
  · rename_i k hk
    obtain ⟨hlt, he, _⟩ := mailO_some hk
    split
    · rename_i c
      have hs := sub_take_drop b.mails k
      have := good_take h.good hlt c.2
      rw [he] at this
      refine ⟨this, fun m hm => h.m m (hs.subset hm), fun x hx => ?_, by have := h.nx; simp only; omega, by have := gput_len b.gone g; have := h.gl; simp only; omega⟩
      rcases gput_mem.1 hx with q | q
      · rw [q]; exact hg
      · exact h.g x q
    · exact h.mono (by omega)
theorem flagsOk_iff {l : List Reg} : flagsOk l = true ↔ l.length = 3 ∧ ∀ r ∈ l, regOk r = true ∧ r.val ≤ 1 := by
  simp only [flagsOk, Bool.and_eq_true, decide_eq_true_eq, Option.isNone_iff_eq_none, firstN_isNone]
  constructor
  · rintro ⟨h1, h2⟩
    refine ⟨h2, fun r hr => ?_⟩
    obtain ⟨j, hj, rfl⟩ := List.getElem_of_mem hr
    have := h1 j hj
    rw [badFlag_at hj] at this
    simp only [Bool.or_eq_false_iff, Bool.not_eq_eq_eq_not, Bool.not_false, decide_eq_false_iff_not] at this
    exact ⟨this.1, by omega⟩
  · rintro ⟨h1, h2⟩
    refine ⟨fun j hj => ?_, h1⟩
    have := h2 _ (List.getElem_mem hj)
    rw [badFlag_at hj]
    simp only [Bool.or_eq_false_iff, Bool.not_eq_eq_eq_not, Bool.not_false, decide_eq_false_iff_not]
    exact ⟨this.1, by omega⟩
theorem setFlags_ok {l : List Reg} (h : flagsOk l = true) (n t w : Int) : flagsOk (setFlags l n t w) = true := by
  unfold setFlags
  split
  · obtain ⟨h1, h2⟩ := flagsOk_iff.1 h
    refine flagsOk_iff.2 ⟨by simpa using h1, fun r hr => ?_⟩
    obtain ⟨j, hj, rfl⟩ := List.getElem_of_mem hr
    rw [List.getElem_mapIdx]
    have hq := h2 _ (List.getElem_mem (l := l) (by simpa using hj))
    unfold setFlag
    split
    · exact hq
    · unfold putReg
      split
      · rename_i c
        exact ⟨c.2, (bitOf_range n j).2⟩
      · exact hq
  · exact h
theorem good_set {b : Box} (h : Good b) {k : Nat} (hk : k < b.mails.length) (fl : List Reg) (hf : flagsOk fl = true) : Good { b with mails := b.mails.set k { b.mails[k] with flags := fl } } := by
  have e1 : (b.mails.set k { b.mails[k] with flags := fl }).map (·.uid) = b.mails.map (·.uid) := by
    rw [List.map_set]; apply List.ext_getElem <;> simp [List.getElem_set]; intro i hi h2; subst h2; rfl
  have e2 : (b.mails.set k { b.mails[k] with flags := fl }).map (·.gid) = b.mails.map (·.gid) := by
    rw [List.map_set]; apply List.ext_getElem <;> simp [List.getElem_set]; intro i hi h2; subst h2; rfl
  refine ⟨h.gid, h.name, h.st, h.next, by simpa using h.len, h.gone, h.goneR, h.goneL, fun m hm => ?_, ?_, ?_⟩
  · obtain ⟨j, hj, rfl⟩ := List.getElem_of_mem hm
    simp only [List.length_set] at hj
    simp only [List.getElem_set]
    split
    · rename_i e; subst e
      have hq := h.mail _ (List.getElem_mem hk)
      refine ⟨?_, hq.2.1, hq.2.2⟩
      have := hq.1
      simp only [mailOk, Bool.and_eq_true] at this ⊢
      exact ⟨⟨this.1.1, hf⟩, this.2⟩
    · exact h.mail _ (List.getElem_mem hj)
  · have := List.pairwise_map.2 h.uids
    rw [← e1] at this
    exact List.pairwise_map.1 this
  · have := List.pairwise_map.2 h.gids
    rw [← e2] at this
    exact List.pairwise_map.1 this
theorem drawn_flag {i : Nat} {b : Box} (h : Drawn i b) (g n t w : Int) : Drawn (i + 1) (flagMail b g n t w).1 := by
  unfold flagMail
  split
  · exact h.mono (by omega)
  · rename_i k hk
    obtain ⟨hlt, he, _⟩ := mailO_some hk
    rw [List.getElem?_eq_getElem hlt]
    simp only
    split
    · have hm := h.good.mail _ (List.getElem_mem hlt)
      have hf : flagsOk (b.mails[k]).flags = true := by
        have := hm.1
        simp only [mailOk, Bool.and_eq_true] at this
        exact this.1.2
      refine ⟨good_set h.good hlt _ (setFlags_ok hf n t w), fun m hm => ?_, h.g, by have := h.nx; simp only; omega, by have := h.gl; simp only; omega⟩
      obtain ⟨j, hj, rfl⟩ := List.getElem_of_mem hm
      simp only [List.getElem_set]
      split
      · exact h.m (b.mails[k]) (List.getElem_mem hlt)
      · exact h.m _ (List.getElem_mem (by simpa using hj))
    · exact h.mono (by omega)
end Mx

namespace Mx
open Go
variable {M : Nat → Option Body}
structure BxS where
  i : Nat
  b : Box
  c : Bool
  u2 : Nat
  u4 : Nat
  v1 : Nat
  v2 : Nat
  ic : Nat
  q : Int
  n : Nat
def bxM (s : BxS) : T := if s.c then .row 14905 s.v1 0 s.b.mails.length else .nils 4
def bxG (s : BxS) : T := if s.c then .row 14906 s.v2 0 s.b.gone.length else .nils 1
def dbxO (R : List (List T)) (s : BxS) : List (Nat × Ob) := [curD R s.ic s.q, (2, ⟨s.u2, 7, true, true, [bzero]⟩), (4, ⟨s.u4, 7, true, true, [[I s.b.gid, S s.b.name, I s.b.time, I s.b.who, I s.b.next, bxM s, bxG s]]⟩)] ++
  if s.c then [(14905, ⟨s.v1, 4, true, false, s.b.mails.map encMail⟩), (14906, ⟨s.v2, 1, true, false, irow s.b.gone⟩)] else []
def dbxS (R : List (List T)) (s : BxS) : St := { t := [(0, .c (.ptr 0 0 0 0)), (2, .c (.ptr 2 s.u2 0 0)), (4, .c (.ptr 4 s.u4 0 0)), (5, .c (I s.i))], o := dbxO R s, n := s.n }
def dbxE (R : List (List T)) (s : BxS) : St := { t := [(0, .c (.ptr 0 0 0 0)), (2, .c (.ptr 2 s.u2 0 0)), (4, .c (.ptr 4 s.u4 0 0)), (5, .c (I s.i)), (21, .c (.bool false))], o := dbxO R s, n := s.n }
structure BxI (R : List (List T)) (s : BxS) : Prop where
  i : s.i ≤ 11
  b : Drawn s.i s.b
  c : s.ic ≤ R.length
  e : s.c = false → s.b.mails = [] ∧ s.b.gone = []
structure BxK (M : Nat → Option Body) : Prop where
  add : spec_AddMail.k M
  flag : spec_FlagMail.k M
  take : spec_TakeOut.k M
  below : spec_l01Below.k M
  text : spec_l05Text.k M
  pick : spec_l01Pick.k M
  stamp : spec_l03Stamp.k M
/-- the loop ends -/
theorem bx_end {R : List (List T)} (s : BxS) (k ic' x : Nat) (q' : Int) (h1 : run M 125 [.c (.ptr 0 0 0 0), .c (I 12)] [curD R s.ic s.q] = some (.c (I x), [curD R ic' q'])) (hx : ¬ s.i < x) :
    ∃ n', exC (run M) k spec_l06Box.l0 (dbxS R s) = some (.exit 0, dbxE R { s with ic := ic', q := q', n := n' }) := by
  obtain ⟨i, b, c, u2, u4, v1, v2, ic, q, n⟩ := s
  simp only at h1 hx
  have e7 : (b.mails.map encMail).length = b.mails.length := by simp
  have e8 := irow_length b.gone
  simp only [dbxS, dbxE, dbxO, bxM, bxG]
  generalize b.mails.map encMail = rm at *
  generalize irow b.gone = rg at *
  cases c
  · simp (maxSteps := 1000000) [spec_l06Box.l0, List.range_succ, bs_get, setAt, h1, hx]
  · simp (maxSteps := 1000000) [spec_l06Box.l0, List.range_succ, bs_get, setAt, h1, hx]
set_option maxHeartbeats 4000000 in
theorem bx_add {R : List (List T)} (s : BxS) (k ic1 ic2 ic3 ic4 ic5 ic6 x g t w k5 f : Nat) (tx : List UInt8) (q1 q2 q3 q4 q5 q6 : Int) (b' : Box) (ok : Bool) (hi : s.i ≤ 11) (hg : g < 9)
    (he : s.c = false → s.b.mails = [] ∧ s.b.gone = [])
    (h1 : run M 125 [.c (.ptr 0 0 0 0), .c (I 12)] [curD R s.ic s.q] = some (.c (I x), [curD R ic1 q1])) (hx : s.i < x)
    (h2 : run M 125 [.c (.ptr 0 0 0 0), .c (I 9)] [curD R ic1 q1] = some (.c (I g), [curD R ic2 q2]))
    (h3 : run M 232 [.c (.ptr 0 0 0 0)] [curD R ic2 q2] = some (.a [I t, I w], [curD R ic3 q3]))
    (h4 : run M 125 [.c (.ptr 0 0 0 0), .c (I 5)] [curD R ic3 q3] = some (.c (I k5), [curD R ic4 q4]))
    (hk : k5 = 0 ∨ k5 = 1 ∨ k5 = 2)
    (h5 : run M 125 [.c (.ptr 0 0 0 0), .c (I 8)] [curD R ic4 q4] = some (.c (I f), [curD R ic5 q5]))
    (h6 : run M 174 [.c (.ptr 0 0 0 0)] [curD R ic5 q5] = some (.c (S tx), [curD R ic6 q6]))
    (h7 : run M 81 [.a (encBox s.b), .c (I (10 + (g : Int))), .c (I f), .c (S tx), .a [I t, I w]] [] = some (.tup [.a (encBoxO b'), .c (.bool ok)], [])) :
    ∃ v1' v2' n', exC (run M) k spec_l06Box.l0 (dbxS R s) = some (.normal, dbxS R ⟨s.i + 1, b', true, s.u2, s.u4, v1', v2', ic6, q6, n'⟩) := by
  have ez : ((0 : Nat) : Int) = 0 := rfl
  obtain ⟨i, b, c, u2, u4, v1, v2, ic, q, n⟩ := s
  simp only at h1 hx he hi
  have e3 := wrap1 (i := i) (by omega)
  have e4 : IntKind.i64.wrap (10 + (g : Int)) = 10 + (g : Int) := wrap_i64 (by omega) (by omega)
  have e7 : (b.mails.map encMail).length = b.mails.length := by simp
  have e8 := irow_length b.gone
  have e9 : (b'.mails.map encMail).length = b'.mails.length := by simp
  have e10 := irow_length b'.gone
  have e11 : (b.mails.map encMail).take b.mails.length = b.mails.map encMail := List.take_of_length_le (by omega)
  have e12 : (irow b.gone).take b.gone.length = irow b.gone := List.take_of_length_le (by omega)
  simp only [dbxS, dbxO, bxM, bxG]
  cases c
  · obtain ⟨em, eg⟩ := he rfl
    simp only [encBox, encBoxO, mails, ints, em, eg, List.map_nil] at h7
    simp only [irow_nil] at h7
    generalize b'.mails.map encMail = rm' at *
    generalize irow b'.gone = rg' at *
    rcases hk with rfl | rfl | rfl
    · simp only [Int.cast_ofNat_Int, ez] at h4
      simp (maxSteps := 1000000) [spec_l06Box.l0, List.range_succ, bs_get, setAt, h1, h2, h3, h4, h5, h6, h7, hx, e3, e4, e7, e8, e9, e10, e11, e12]
    · simp only [Int.cast_ofNat_Int, ez] at h4
      simp (maxSteps := 1000000) [spec_l06Box.l0, List.range_succ, bs_get, setAt, h1, h2, h3, h4, h5, h6, h7, hx, e3, e4, e7, e8, e9, e10, e11, e12]
    · simp only [Int.cast_ofNat_Int, ez] at h4
      simp (maxSteps := 1000000) [spec_l06Box.l0, List.range_succ, bs_get, setAt, h1, h2, h3, h4, h5, h6, h7, hx, e3, e4, e7, e8, e9, e10, e11, e12]
  · simp only [encBox, encBoxO, mails, ints] at h7
    generalize b'.mails.map encMail = rm' at *
    generalize irow b'.gone = rg' at *
    generalize b.mails.map encMail = rm at *
    generalize irow b.gone = rg at *
    rcases hk with rfl | rfl | rfl
    · simp only [Int.cast_ofNat_Int, ez] at h4
      simp (maxSteps := 1000000) [spec_l06Box.l0, List.range_succ, bs_get, setAt, h1, h2, h3, h4, h5, h6, h7, hx, e3, e4, e7, e8, e9, e10, e11, e12]
    · simp only [Int.cast_ofNat_Int, ez] at h4
      simp (maxSteps := 1000000) [spec_l06Box.l0, List.range_succ, bs_get, setAt, h1, h2, h3, h4, h5, h6, h7, hx, e3, e4, e7, e8, e9, e10, e11, e12]
    · simp only [Int.cast_ofNat_Int, ez] at h4
      simp (maxSteps := 1000000) [spec_l06Box.l0, List.range_succ, bs_get, setAt, h1, h2, h3, h4, h5, h6, h7, hx, e3, e4, e7, e8, e9, e10, e11, e12]
set_option maxHeartbeats 4000000 in
theorem bx_flag {R : List (List T)} (s : BxS) (k ic1 ic2 ic3 ic4 ic5 ic6 x g t w k5 f : Nat) (tx : List UInt8) (q1 q2 q3 q4 q5 q6 : Int) (b' : Box) (ok : Bool) (hi : s.i ≤ 11) (hg : g < 9)
    (he : s.c = false → s.b.mails = [] ∧ s.b.gone = [])
    (h1 : run M 125 [.c (.ptr 0 0 0 0), .c (I 12)] [curD R s.ic s.q] = some (.c (I x), [curD R ic1 q1])) (hx : s.i < x)
    (h2 : run M 125 [.c (.ptr 0 0 0 0), .c (I 9)] [curD R ic1 q1] = some (.c (I g), [curD R ic2 q2]))
    (h3 : run M 232 [.c (.ptr 0 0 0 0)] [curD R ic2 q2] = some (.a [I t, I w], [curD R ic3 q3]))
    (h4 : run M 125 [.c (.ptr 0 0 0 0), .c (I 5)] [curD R ic3 q3] = some (.c (I k5), [curD R ic4 q4]))
    (hk : k5 = 3)
    (h5 : run M 125 [.c (.ptr 0 0 0 0), .c (I 8)] [curD R ic4 q4] = some (.c (I f), [curD R ic5 q5]))
    (h7 : run M 84 [.a (encBox s.b), .c (I (10 + (g : Int))), .c (I f), .a [I t, I w]] [] = some (.tup [.a (encBoxO b'), .c (.bool ok)], [])) :
    ∃ v1' v2' n', exC (run M) k spec_l06Box.l0 (dbxS R s) = some (.normal, dbxS R ⟨s.i + 1, b', true, s.u2, s.u4, v1', v2', ic5, q5, n'⟩) := by
  subst hk
  simp only [Int.cast_ofNat_Int] at h4
  obtain ⟨i, b, c, u2, u4, v1, v2, ic, q, n⟩ := s
  simp only at h1 hx he hi
  have e3 := wrap1 (i := i) (by omega)
  have e4 : IntKind.i64.wrap (10 + (g : Int)) = 10 + (g : Int) := wrap_i64 (by omega) (by omega)
  have e7 : (b.mails.map encMail).length = b.mails.length := by simp
  have e8 := irow_length b.gone
  have e9 : (b'.mails.map encMail).length = b'.mails.length := by simp
  have e10 := irow_length b'.gone
  have e11 : (b.mails.map encMail).take b.mails.length = b.mails.map encMail := List.take_of_length_le (by omega)
  have e12 : (irow b.gone).take b.gone.length = irow b.gone := List.take_of_length_le (by omega)
  simp only [dbxS, dbxO, bxM, bxG]
  cases c
  · obtain ⟨em, eg⟩ := he rfl
    simp only [encBox, encBoxO, mails, ints, em, eg, List.map_nil] at h7
    simp only [irow_nil] at h7
    generalize b'.mails.map encMail = rm' at *
    generalize irow b'.gone = rg' at *
    simp (maxSteps := 1000000) [spec_l06Box.l0, List.range_succ, bs_get, setAt, h1, h2, h3, h4, h5, h7, hx, e3, e4, e7, e8, e9, e10, e11, e12]
  · simp only [encBox, encBoxO, mails, ints] at h7
    generalize b'.mails.map encMail = rm' at *
    generalize irow b'.gone = rg' at *
    generalize b.mails.map encMail = rm at *
    generalize irow b.gone = rg at *
    simp (maxSteps := 1000000) [spec_l06Box.l0, List.range_succ, bs_get, setAt, h1, h2, h3, h4, h5, h7, hx, e3, e4, e7, e8, e9, e10, e11, e12]
set_option maxHeartbeats 4000000 in
theorem bx_take {R : List (List T)} (s : BxS) (k ic1 ic2 ic3 ic4 ic5 ic6 x g t w k5 f : Nat) (tx : List UInt8) (q1 q2 q3 q4 q5 q6 : Int) (b' : Box) (ok : Bool) (hi : s.i ≤ 11) (hg : g < 9)
    (he : s.c = false → s.b.mails = [] ∧ s.b.gone = [])
    (h1 : run M 125 [.c (.ptr 0 0 0 0), .c (I 12)] [curD R s.ic s.q] = some (.c (I x), [curD R ic1 q1])) (hx : s.i < x)
    (h2 : run M 125 [.c (.ptr 0 0 0 0), .c (I 9)] [curD R ic1 q1] = some (.c (I g), [curD R ic2 q2]))
    (h3 : run M 232 [.c (.ptr 0 0 0 0)] [curD R ic2 q2] = some (.a [I t, I w], [curD R ic3 q3]))
    (h4 : run M 125 [.c (.ptr 0 0 0 0), .c (I 5)] [curD R ic3 q3] = some (.c (I k5), [curD R ic4 q4]))
    (hk : 3 < k5)
    (h7 : run M 86 [.a (encBox s.b), .c (I (10 + (g : Int)))] [] = some (.tup [.a (encBoxO b'), .c (.bool ok)], [])) :
    ∃ v1' v2' n', exC (run M) k spec_l06Box.l0 (dbxS R s) = some (.normal, dbxS R ⟨s.i + 1, b', true, s.u2, s.u4, v1', v2', ic4, q4, n'⟩) := by
  have d0 : ¬ k5 = 0 := by omega
  have d1 : ¬ k5 = 1 := by omega
  have d2 : ¬ k5 = 2 := by omega
  have d3 : ¬ k5 = 3 := by omega
  have f0 : ¬ (k5 : Int) = 0 := by omega
  have f1 : ¬ (k5 : Int) = 1 := by omega
  have f2 : ¬ (k5 : Int) = 2 := by omega
  have f3 : ¬ (k5 : Int) = 3 := by omega
  obtain ⟨i, b, c, u2, u4, v1, v2, ic, q, n⟩ := s
  simp only at h1 hx he hi
  have e3 := wrap1 (i := i) (by omega)
  have e4 : IntKind.i64.wrap (10 + (g : Int)) = 10 + (g : Int) := wrap_i64 (by omega) (by omega)
  have e7 : (b.mails.map encMail).length = b.mails.length := by simp
  have e8 := irow_length b.gone
  have e9 : (b'.mails.map encMail).length = b'.mails.length := by simp
  have e10 := irow_length b'.gone
  have e11 : (b.mails.map encMail).take b.mails.length = b.mails.map encMail := List.take_of_length_le (by omega)
  have e12 : (irow b.gone).take b.gone.length = irow b.gone := List.take_of_length_le (by omega)
  simp only [dbxS, dbxO, bxM, bxG]
  cases c
  · obtain ⟨em, eg⟩ := he rfl
    simp only [encBox, encBoxO, mails, ints, em, eg, List.map_nil] at h7
    simp only [irow_nil] at h7
    generalize b'.mails.map encMail = rm' at *
    generalize irow b'.gone = rg' at *
    simp (maxSteps := 1000000) [spec_l06Box.l0, List.range_succ, bs_get, setAt, h1, h2, h3, h4, h7, d0, d1, d2, d3, f0, f1, f2, f3, hx, e3, e4, e7, e8, e9, e10, e11, e12]
  · simp only [encBox, encBoxO, mails, ints] at h7
    generalize b'.mails.map encMail = rm' at *
    generalize irow b'.gone = rg' at *
    generalize b.mails.map encMail = rm at *
    generalize irow b.gone = rg at *
    simp (maxSteps := 1000000) [spec_l06Box.l0, List.range_succ, bs_get, setAt, h1, h2, h3, h4, h7, d0, d1, d2, d3, f0, f1, f2, f3, hx, e3, e4, e7, e8, e9, e10, e11, e12]
end Mx

namespace Mx
open Go
variable {M : Nat → Option Body}
theorem bx_turn (K : BxK M) {R : List (List T)} (hR : Bytes R) (k : Nat) (s : BxS) (hs : BxI R s) :
    (∃ s', exC (run M) k spec_l06Box.l0 (dbxS R s) = some (.normal, dbxS R s') ∧ BxI R s' ∧ 12 - s'.i < 12 - s.i) ∨
      (∃ r, exC (run M) k spec_l06Box.l0 (dbxS R s) = some r ∧ r.1 ≠ .normal ∧ ∃ s', r = (.exit 0, dbxE R s') ∧ BxI R s') := by
  have hb := hs.b.good.inB
  have hi := hs.i
  obtain ⟨x, ic1, q1, hx, hc1, h1⟩ := spec_l01Below.says K.below hR s.ic s.q hs.c 12 (by omega) (by omega)
  by_cases hlt : s.i < x
  · left
    obtain ⟨g, ic2, q2, hg, hc2, h2⟩ := spec_l01Below.says K.below hR ic1 q1 hc1 9 (by omega) (by omega)
    obtain ⟨t, w, ic3, q3, ht, hw1, hw2, hc3, h3⟩ := spec_l03Stamp.says K.stamp hR ic2 q2 hc2
    obtain ⟨k5, ic4, q4, hk5, hc4, h4⟩ := spec_l01Below.says K.below hR ic3 q3 hc3 5 (by omega) (by omega)
    have hgr : (10 : Int) ≤ 10 + (g : Int) ∧ 10 + (g : Int) ≤ 18 := ⟨by omega, by omega⟩
    by_cases c1 : k5 ≤ 2
    · obtain ⟨f, ic5, q5, hf, hc5, h5⟩ := spec_l01Below.says K.below hR ic4 q4 hc4 8 (by omega) (by omega)
      obtain ⟨tx, ic6, q6, htx, hc6, h6⟩ := spec_l05Text.says K.text hR ic5 q5 hc5
      have h7 := spec_AddMail.says K.add s.b hb (10 + (g : Int)) f tx t w
      obtain ⟨v1', v2', n', hh⟩ := bx_add s k ic1 ic2 ic3 ic4 ic5 ic6 x g t w k5 f tx q1 q2 q3 q4 q5 q6 _ _ hi hg hs.e h1 hlt h2 h3 h4 (by omega) h5 h6 h7
      exact ⟨_, hh, ⟨by simp only; omega, drawn_add hs.b hgr _ _ _ _, hc6, fun h => by cases h⟩, by simp only; omega⟩
    · by_cases c2 : k5 = 3
      · obtain ⟨f, ic5, q5, hf, hc5, h5⟩ := spec_l01Below.says K.below hR ic4 q4 hc4 8 (by omega) (by omega)
        have h7 := spec_FlagMail.says K.flag s.b hb (10 + (g : Int)) f t w
        obtain ⟨v1', v2', n', hh⟩ := bx_flag s k ic1 ic2 ic3 ic4 ic5 0 x g t w k5 f [] q1 q2 q3 q4 q5 0 _ _ hi hg hs.e h1 hlt h2 h3 h4 c2 h5 h7
        exact ⟨_, hh, ⟨by simp only; omega, drawn_flag hs.b _ _ _ _, hc5, fun h => by cases h⟩, by simp only; omega⟩
      · have h7 := spec_TakeOut.says K.take s.b hb (10 + (g : Int))
        obtain ⟨v1', v2', n', hh⟩ := bx_take s k ic1 ic2 ic3 ic4 0 0 x g t w k5 0 [] q1 q2 q3 q4 0 0 _ _ hi hg hs.e h1 hlt h2 h3 h4 (by omega) h7
        exact ⟨_, hh, ⟨by simp only; omega, drawn_take hs.b hgr, hc4, fun h => by cases h⟩, by simp only; omega⟩
  · right
    obtain ⟨n', hh⟩ := bx_end s k ic1 x q1 h1 hlt
    exact ⟨_, hh, by simp, _, rfl, ⟨hs.i, hs.b, hc1, hs.e⟩⟩
def names3 : List (List UInt8) := [[105, 110, 98, 111, 120], [119, 111, 114, 107], [111, 108, 100, 57]]
set_option maxHeartbeats 2000000 in
theorem spec_l06Box.says (h : spec_l06Box.k M) {R : List (List T)} (hR : Bytes R) (i : Nat) (q : Int) (hi : i ≤ R.length) :
    ∃ (b : Box) (i' : Nat) (q' : Int), Drawn 11 b ∧ i' ≤ R.length ∧ run M 154 [.c (.ptr 0 0 0 0)] [curD R i q] = some (.a (encBoxO b), [curD R i' q']) := by
  obtain ⟨h0, ka, kf, kt, kb, kx, kp, ks⟩ := h
  obtain ⟨t, w, ic1, q1, ht, hw1, hw2, hc1, h1⟩ := spec_l03Stamp.says ks hR i q hi
  obtain ⟨nm, ic2, q2, hnm, hc2, h2⟩ := spec_l01Pick.says kp hR ic1 q1 hc1 names3 (by decide) (by decide)
  obtain ⟨y, ic3, q3, hy, hc3, h3⟩ := spec_l01Below.says kb hR ic2 q2 hc2 4 (by omega) (by omega)
  have hname : nameOk nm = true := by
    have : ∀ s ∈ names3, nameOk s = true := by decide
    exact this nm hnm
  have e1 : IntKind.i64.wrap (1 + (y : Int)) = 1 + (y : Int) := wrap_i64 (by omega) (by omega)
  have hG : Drawn 0 { gid := 7, name := nm, time := t, who := w, next := 1 + (y : Int), mails := [], gone := [] } := by
    refine ⟨⟨by simp only; omega, hname, ?_, by simp only; omega, by simp, List.Pairwise.nil, by simp, by simp, by simp, List.Pairwise.nil, List.Pairwise.nil⟩, by simp, by simp, by simp only; omega, by simp⟩
    simp only [stampOk, Bool.and_eq_true]
    exact ⟨inR_iff.2 ⟨by omega, by omega⟩, inR_iff.2 ⟨by omega, by omega⟩⟩
  obtain ⟨r, hr, ⟨⟨j, b, c, u2, u4, v1, v2, ic, q', n⟩, rfl, hI⟩⟩ := loop_ex (f := exC (run M) 13 spec_l06Box.l0) (dbxS R) (BxI R) (fun s => 12 - s.i) (fun r => ∃ s', r = (.exit 0, dbxE R s') ∧ BxI R s')
    (fun s hs => bx_turn ⟨ka, kf, kt, kb, kx, kp, ks⟩ hR 13 s hs) 13 ⟨0, { gid := 7, name := nm, time := t, who := w, next := 1 + (y : Int), mails := [], gone := [] }, false, 2000000, 2000208, 0, 0, ic3, q3, 2000256⟩ ⟨by simp, hG, hc3, fun _ => ⟨rfl, rfl⟩⟩ (by simp)
  obtain ⟨hji, hD, hc, hE⟩ := hI
  simp only at hji hD hc hE
  refine ⟨b, ic, q', hD.mono hji, hc, run_code (b := spec_l06Box.m) h0 ⟨13, ?_⟩⟩
  simp only [names3, List.map_cons, List.map_nil, S, bs] at h2
  simp only [Int.cast_ofNat_Int] at h3
  have e7 : (b.mails.map encMail).length = b.mails.length := by simp
  have e8 := irow_length b.gone
  have e11 : (b.mails.map encMail).take b.mails.length = b.mails.map encMail := List.take_of_length_le (by omega)
  have e12 : (irow b.gone).take b.gone.length = irow b.gone := List.take_of_length_le (by omega)
  simp only [dbxS, dbxE, dbxO, bxM, bxG] at hr
  cases c
  · obtain ⟨em, eg⟩ := hE rfl
    simp at hr
    simp only [encBoxO, em, eg, List.map_nil, irow_nil]
    simp (maxSteps := 1000000) [exB, spec_l06Box.m, spec_l06Box.b, List.range_succ, bs_get, setAt, hr, h1, h2, h3, e1]
  · simp at hr
    simp only [encBoxO]
    generalize b.mails.map encMail = rm at *
    generalize irow b.gone = rg at *
    simp (maxSteps := 1000000) [exB, spec_l06Box.m, spec_l06Box.b, List.range_succ, bs_get, setAt, hr, h1, h2, h3, e1, e7, e8, e11, e12]
end Mx

namespace Mx
open Go
variable {M : Nat → Option Body}
theorem spec_l01PickInt.says (h : spec_l01PickInt.k M) {R : List (List T)} (hR : Bytes R) (i : Nat) (q : Int) (hi : i ≤ R.length) (ns : List Int) (h0 : 0 < ns.length) (hn : ns.length ≤ 256) :
    ∃ (s : Int) (i' : Nat) (q' : Int), s ∈ ns ∧ i' ≤ R.length ∧ run M 179 [.c (.ptr 0 0 0 0), .c (.sl false 1 (ns.map fun s => [I s]))] [curD R i q] = some (.c (I s), [curD R i' q']) := by
  obtain ⟨hm, k1⟩ := h
  obtain ⟨x, i1, q1, hx, hi1, h1⟩ := spec_l01Below.says k1 hR i q hi ns.length h0 (by omega)
  refine ⟨ns[x], i1, q1, List.getElem_mem hx, hi1, ?_⟩
  refine run_code (b := spec_l01PickInt.m) hm ⟨0, ?_⟩
  simp (maxSteps := 1000000) [exB, spec_l01PickInt.m, spec_l01PickInt.b, List.range_succ, bs_get, setAt, h1, hx]
theorem spec_l01Once.says (h : spec_l01Once.k M) {R : List (List T)} (hR : Bytes R) (i : Nat) (q : Int) (hi : i ≤ R.length) (n : Nat) (h0 : 0 < n) (hn : n ≤ 256) :
    ∃ (s : Bool) (i' : Nat) (q' : Int), i' ≤ R.length ∧ run M 175 [.c (.ptr 0 0 0 0), .c (I n)] [curD R i q] = some (.c (.bool s), [curD R i' q']) := by
  obtain ⟨hm, k1⟩ := h
  obtain ⟨x, i1, q1, hx, hi1, h1⟩ := spec_l01Below.says k1 hR i q hi n h0 (by omega)
  refine ⟨decide (x = 0), i1, q1, hi1, ?_⟩
  refine run_code (b := spec_l01Once.m) hm ⟨0, ?_⟩
  simp (maxSteps := 1000000) [exB, spec_l01Once.m, spec_l01Once.b, List.range_succ, bs_get, setAt, h1]
theorem spec_l03Any.says (h : spec_l03Any.k M) {R : List (List T)} (hR : Bytes R) (i : Nat) (q : Int) (hi : i ≤ R.length) :
    ∃ (t w : Int) (i' : Nat) (q' : Int), i' ≤ R.length ∧ run M 177 [.c (.ptr 0 0 0 0)] [curD R i q] = some (.a [I t, I w], [curD R i' q']) := by
  obtain ⟨hm, kb, kp, ks⟩ := h
  obtain ⟨t, w, i1, q1, ht, hw1, hw2, hi1, h1⟩ := spec_l03Stamp.says ks hR i q hi
  obtain ⟨x, i2, q2, hx, hi2, h2⟩ := spec_l01Below.says kb hR i1 q1 hi1 8 (by omega) (by omega)
  simp only [Int.cast_ofNat_Int] at h2
  by_cases c0 : x = 0
  · obtain ⟨s, i3, q3, hs, hi3, h3⟩ := spec_l01PickInt.says kp hR i2 q2 hi2 [-1, 100000, 100001] (by decide) (by decide)
    simp only [List.map_cons, List.map_nil] at h3
    have c1 : (x : Int) = 0 := by omega
    refine ⟨s, w, i3, q3, hi3, run_code (b := spec_l03Any.m) hm ⟨0, ?_⟩⟩
    simp (maxSteps := 1000000) [exB, spec_l03Any.m, spec_l03Any.b, List.range_succ, bs_get, setAt, h1, h2, h3, c0, c1]
  · have d0 : ¬ (x : Int) = 0 := by omega
    by_cases c1 : x = 1
    · obtain ⟨s, i3, q3, hs, hi3, h3⟩ := spec_l01PickInt.says kp hR i2 q2 hi2 [-1, 0, 3] (by decide) (by decide)
      simp only [List.map_cons, List.map_nil] at h3
      have d1 : (x : Int) = 1 := by omega
      refine ⟨t, s, i3, q3, hi3, run_code (b := spec_l03Any.m) hm ⟨0, ?_⟩⟩
      simp (maxSteps := 1000000) [exB, spec_l03Any.m, spec_l03Any.b, List.range_succ, bs_get, setAt, h1, h2, h3, c0, c1, d0, d1]
    · have d1 : ¬ (x : Int) = 1 := by omega
      refine ⟨t, w, i2, q2, hi2, run_code (b := spec_l03Any.m) hm ⟨0, ?_⟩⟩
      simp (maxSteps := 1000000) [exB, spec_l03Any.m, spec_l03Any.b, List.range_succ, bs_get, setAt, h1, h2, c0, c1, d0, d1]
theorem spec_l03Reg.says (h : spec_l03Reg.k M) {R : List (List T)} (hR : Bytes R) (i : Nat) (q : Int) (hi : i ≤ R.length) :
    ∃ (r : Reg) (i' : Nat) (q' : Int), i' ≤ R.length ∧ run M 299 [.c (.ptr 0 0 0 0)] [curD R i q] = some (.a (encReg r), [curD R i' q']) := by
  obtain ⟨hm, ka, kp⟩ := h
  obtain ⟨t, w, i1, q1, hi1, h1⟩ := spec_l03Any.says ka hR i q hi
  obtain ⟨s, i2, q2, hs, hi2, h2⟩ := spec_l01PickInt.says kp hR i1 q1 hi1 [0, 1, 1, 7, -1, 1000000001] (by decide) (by decide)
  simp only [List.map_cons, List.map_nil] at h2
  refine ⟨⟨s, t, w⟩, i2, q2, hi2, run_code (b := spec_l03Reg.m) hm ⟨0, ?_⟩⟩
  simp (maxSteps := 1000000) [exB, spec_l03Reg.m, spec_l03Reg.b, List.range_succ, bs_get, setAt, h1, h2]
end Mx

namespace Mx
open Go
variable {M : Nat → Option Body}
structure FgS where
  i : Nat
  l : List Reg
  v : Nat
  ic : Nat
  q : Int
  n : Nat
def fgO (R : List (List T)) (s : FgS) : List (Nat × Ob) := [curD R s.ic s.q, (6, ⟨s.v, 3, true, false, s.l.map encReg⟩)]
def fgS (R : List (List T)) (s : FgS) : St := { t := [(0, .c (.ptr 0 0 0 0)), (3, .c (.row 6 s.v 0 s.i)), (4, .c (I s.i))], o := fgO R s, n := s.n }
def fgE (R : List (List T)) (s : FgS) : St := { t := [(0, .c (.ptr 0 0 0 0)), (3, .c (.row 6 s.v 0 s.i)), (4, .c (I s.i)), (8, .c (.bool false))], o := fgO R s, n := s.n }
structure FgI (R : List (List T)) (s : FgS) : Prop where
  i : s.i ≤ 3
  l : s.l.length = s.i
  c : s.ic ≤ R.length
theorem fg_turn (kb : spec_l01Below.k M) (ks : spec_l03Stamp.k M) {R : List (List T)} (hR : Bytes R) (k : Nat) (s : FgS) (hs : FgI R s) :
    (∃ s', exC (run M) k spec_l04Flags.l0 (fgS R s) = some (.normal, fgS R s') ∧ FgI R s' ∧ 3 - s'.i < 3 - s.i) ∨
      (∃ r, exC (run M) k spec_l04Flags.l0 (fgS R s) = some r ∧ r.1 ≠ .normal ∧ ∃ s', r = (.exit 0, fgE R s') ∧ s'.i = 3 ∧ FgI R s') := by
  obtain ⟨i, l, v, ic, q, n⟩ := s
  obtain ⟨hi, hl, hc⟩ := hs
  simp only at hi hl hc
  obtain ⟨t, w, ic1, q1, ht, hw1, hw2, hc1, h1⟩ := spec_l03Stamp.says ks hR ic q hc
  obtain ⟨x, ic2, q2, hx, hc2, h2⟩ := spec_l01Below.says kb hR ic1 q1 hc1 2 (by omega) (by omega)
  simp only [Int.cast_ofNat_Int] at h2
  by_cases hlt : i < 3
  · left
    have hlt2 : (i : Int) < 3 := by omega
    have e3 := wrap1 (i := i) (by omega)
    have e5 : i + 1 ≤ 4294967296 := by omega
    have e6 : (l ++ [(⟨x, t, w⟩ : Reg)]).map encReg = l.map encReg ++ [[I x, I t, I w]] := by simp
    have e7 : (l.map encReg).length = i := by simp [hl]
    have e8 : (l.map encReg).take i = l.map encReg := List.take_of_length_le (by omega)
    have hh : ∃ v' n', exC (run M) k spec_l04Flags.l0 (fgS R ⟨i, l, v, ic, q, n⟩) = some (.normal, fgS R ⟨i + 1, l ++ [⟨x, t, w⟩], v', ic2, q2, n'⟩) := by
      simp only [fgS, fgO, e6]
      generalize l.map encReg = rl at *
      simp (maxSteps := 1000000) [spec_l04Flags.l0, List.range_succ, bs_get, setAt, h1, h2, hlt, hlt2, e3, e5, e7, e8]
    obtain ⟨v', n', hh⟩ := hh
    exact ⟨_, hh, ⟨by simp only; omega, by simp [hl], hc2⟩, by simp only; omega⟩
  · right
    have hlt2 : ¬ (i : Int) < 3 := by omega
    have hh : ∃ n', exC (run M) k spec_l04Flags.l0 (fgS R ⟨i, l, v, ic, q, n⟩) = some (.exit 0, fgE R ⟨i, l, v, ic, q, n'⟩) := by
      simp only [fgS, fgE, fgO]
      simp (maxSteps := 1000000) [spec_l04Flags.l0, List.range_succ, bs_get, setAt, hlt, hlt2]
    obtain ⟨n', hh⟩ := hh
    exact ⟨_, hh, by simp, _, rfl, by simp only; omega, ⟨hi, hl, hc⟩⟩
theorem spec_l04Flags.says (h : spec_l04Flags.k M) {R : List (List T)} (hR : Bytes R) (i : Nat) (q : Int) (hi : i ≤ R.length) :
    ∃ (l : List Reg) (i' : Nat) (q' : Int), l.length = 3 ∧ i' ≤ R.length ∧ run M 298 [.c (.ptr 0 0 0 0)] [curD R i q] = some (.c (.sl true 3 (l.map encReg)), [curD R i' q']) := by
  obtain ⟨h0, k1, k2⟩ := h
  obtain ⟨r, hr, ⟨⟨j, l, v, ic', q', n⟩, rfl, hj, hI⟩⟩ := loop_ex (f := exC (run M) 4 spec_l04Flags.l0) (fgS R) (FgI R) (fun s => 3 - s.i) (fun r => ∃ s', r = (.exit 0, fgE R s') ∧ s'.i = 3 ∧ FgI R s')
    (fun s hs => fg_turn k1 k2 hR 4 s hs) 4 ⟨0, [], 2000016, i, q, 2000064⟩ ⟨by simp, by simp, hi⟩ (by simp)
  obtain ⟨_, hl, hc'⟩ := hI
  simp only at hj hl hc'
  refine ⟨l, ic', q', by omega, hc', run_code (b := spec_l04Flags.m) h0 ⟨4, ?_⟩⟩
  have e7 : (l.map encReg).length = j := by simp [hl]
  have e8 : (l.map encReg).take j = l.map encReg := List.take_of_length_le (by omega)
  simp only [fgS, fgE, fgO] at hr
  generalize l.map encReg = rl at *
  simp at hr
  simp (maxSteps := 1000000) [exB, spec_l04Flags.m, spec_l04Flags.b, List.range_succ, bs_get, setAt, hr, e7, e8]
end Mx

namespace Mx
open Go
variable {M : Nat → Option Body}
theorem spec_l04Any.says (h : spec_l04Any.k M) {R : List (List T)} (hR : Bytes R) (i : Nat) (q : Int) (hi : i ≤ R.length) :
    ∃ (l : List Reg) (i' : Nat) (q' : Int), l.length ≤ 4 ∧ i' ≤ R.length ∧ run M 274 [.c (.ptr 0 0 0 0)] [curD R i q] = some (.c (.sl false 3 (l.map encReg)), [curD R i' q']) := by
  obtain ⟨hm, kb, kf, kr⟩ := h
  obtain ⟨x, i1, q1, hx, hi1, h1⟩ := spec_l01Below.says kb hR i q hi 10 (by omega) (by omega)
  obtain ⟨l, i2, q2, hl, hi2, h2⟩ := spec_l04Flags.says kf hR i1 q1 hi1
  simp only [Int.cast_ofNat_Int] at h1
  have e7 : (l.map encReg).length = 3 := by simp [hl]
  have e8 : (l.map encReg).take 3 = l.map encReg := List.take_of_length_le (by omega)
  by_cases c0 : x = 0
  · have d0 : (x : Int) = 0 := by omega
    have e6 : (l ++ [(⟨0, 0, 0⟩ : Reg)]).map encReg = l.map encReg ++ [[I 0, I 0, I 0]] := by simp
    refine ⟨l ++ [⟨0, 0, 0⟩], i2, q2, by simp [hl], hi2, run_code (b := spec_l04Any.m) hm ⟨0, ?_⟩⟩
    rw [e6]
    generalize l.map encReg = rl at *
    simp (maxSteps := 1000000) [exB, spec_l04Any.m, spec_l04Any.b, List.range_succ, bs_get, setAt, h1, h2, c0, d0, e7, e8, List.take_of_length_le]
  · have d0 : ¬ (x : Int) = 0 := by omega
    by_cases c1 : x = 1
    · have d1 : (x : Int) = 1 := by omega
      have e6 : (l.drop 1).map encReg = (l.map encReg).drop 1 := by simp
      have e9 : ((l.map encReg).drop 1).length = 2 := by simp [hl]
      have e10 : ((l.map encReg).drop 1).take 2 = (l.map encReg).drop 1 := List.take_of_length_le (by omega)
      refine ⟨l.drop 1, i2, q2, by simp [hl], hi2, run_code (b := spec_l04Any.m) hm ⟨0, ?_⟩⟩
      rw [e6]
      generalize l.map encReg = rl at *
      simp (maxSteps := 1000000) [exB, spec_l04Any.m, spec_l04Any.b, List.range_succ, bs_get, setAt, h1, h2, c0, c1, d0, d1, e7, e8, e10]
      simpa using e10
    · have d1 : ¬ (x : Int) = 1 := by omega
      by_cases c2 : x = 2
      · have d2 : (x : Int) = 2 := by omega
        obtain ⟨y, i3, q3, hy, hi3, h3⟩ := spec_l01Below.says kb hR i2 q2 hi2 3 (by omega) (by omega)
        obtain ⟨r, i4, q4, hi4, h4⟩ := spec_l03Reg.says kr hR i3 q3 hi3
        simp only [Int.cast_ofNat_Int] at h3
        have e6 : (l.set y r).map encReg = (l.map encReg).set y [I r.val, I r.time, I r.who] := by rw [List.map_set]
        have e9 : ((l.map encReg).set y [I r.val, I r.time, I r.who]).take 3 = (l.map encReg).set y [I r.val, I r.time, I r.who] := List.take_of_length_le (by simp [hl])
        have e11 : ((l.map encReg)[y]'(by rw [e7]; exact hy)).length = 3 := by rw [List.getElem_map]; rfl
        have e12 : ((l.map encReg)[y]'(by rw [e7]; exact hy)).drop 3 = [] := by rw [List.getElem_map]; rfl
        refine ⟨l.set y r, i4, q4, by simp [hl], hi4, run_code (b := spec_l04Any.m) hm ⟨0, ?_⟩⟩
        rw [e6]
        generalize l.map encReg = rl at *
        simp (maxSteps := 1000000) [exB, spec_l04Any.m, spec_l04Any.b, List.range_succ, bs_get, setAt, h1, h2, h3, h4, c0, c1, c2, d0, d1, d2, e7, e8, e9, e11, e12, hy]
      · have d2 : ¬ (x : Int) = 2 := by omega
        refine ⟨l, i2, q2, by omega, hi2, run_code (b := spec_l04Any.m) hm ⟨0, ?_⟩⟩
        generalize l.map encReg = rl at *
        simp (maxSteps := 1000000) [exB, spec_l04Any.m, spec_l04Any.b, List.range_succ, bs_get, setAt, h1, h2, c0, c1, c2, d0, d1, d2, e7, e8]
theorem spec_l05Mail.says (h : spec_l05Mail.k M) {R : List (List T)} (hR : Bytes R) (i : Nat) (q : Int) (hi : i ≤ R.length) :
    ∃ (m : Mail) (i' : Nat) (q' : Int), m.flags.length = 3 ∧ i' ≤ R.length ∧ m.gid < 10 ∧ run M 273 [.c (.ptr 0 0 0 0)] [curD R i q] = some (.a [I m.gid, I m.uid, .sl true 3 (m.flags.map encReg), S m.text], [curD R i' q']) := by
  obtain ⟨hm, kb, kx, kf⟩ := h
  obtain ⟨x, i1, q1, hx, hi1, h1⟩ := spec_l01Below.says kb hR i q hi 6 (by omega) (by omega)
  obtain ⟨y, i2, q2, hy, hi2, h2⟩ := spec_l01Below.says kb hR i1 q1 hi1 6 (by omega) (by omega)
  obtain ⟨l, i3, q3, hl, hi3, h3⟩ := spec_l04Flags.says kf hR i2 q2 hi2
  obtain ⟨s, i4, q4, hs, hi4, h4⟩ := spec_l05Text.says kx hR i3 q3 hi3
  simp only [Int.cast_ofNat_Int] at h1 h2
  have e1 : IntKind.i64.wrap (1 + (x : Int)) = 1 + (x : Int) := wrap_i64 (by omega) (by omega)
  have e2 : IntKind.i64.wrap (1 + (y : Int)) = 1 + (y : Int) := wrap_i64 (by omega) (by omega)
  have e7 : (l.map encReg).length = 3 := by simp [hl]
  have e8 : (l.map encReg).take 3 = l.map encReg := List.take_of_length_le (by omega)
  refine ⟨⟨1 + x, 1 + y, l, s⟩, i4, q4, hl, hi4, by simp only; omega, run_code (b := spec_l05Mail.m) hm ⟨0, ?_⟩⟩
  simp only
  generalize l.map encReg = rl at *
  simp (maxSteps := 1000000) [exB, spec_l05Mail.m, spec_l05Mail.b, List.range_succ, bs_get, setAt, h1, h2, h3, h4, e1, e2, e7, e8]
end Mx

namespace Mx
open Go
variable {M : Nat → Option Body}
structure LgS where
  i : Nat
  l : List UInt8
  n : Nat
def lgS (v m : Nat) (s : LgS) : St := { t := [(0, .c (I m)), (1, .c (.int .u8 97)), (5, .c (.row 8 v 0 m)), (6, .c (I s.i))], o := [(8, ⟨v, 1, true, false, brow s.l⟩)], n := s.n }
def lgE (v m : Nat) (s : LgS) : St := { t := [(0, .c (I m)), (1, .c (.int .u8 97)), (5, .c (.row 8 v 0 m)), (6, .c (I s.i)), (11, .c (.bool false))], o := [(8, ⟨v, 1, true, false, brow s.l⟩)], n := s.n }
theorem brow_set (l : List UInt8) (i : Nat) (b : UInt8) : (brow l).set i [.int .u8 (b.toNat : Int)] = brow (l.set i b) := by
  simp [brow, List.map_set]
theorem lg_turn (k v m : Nat) (hm : m ≤ 1000) (s : LgS) (hs : s.i ≤ m ∧ s.l.length = m) :
    (∃ s', exC (run M) k spec_l01Long.l0 (lgS v m s) = some (.normal, lgS v m s') ∧ (s'.i ≤ m ∧ s'.l.length = m) ∧ m - s'.i < m - s.i) ∨
      (∃ r, exC (run M) k spec_l01Long.l0 (lgS v m s) = some r ∧ r.1 ≠ .normal ∧ ∃ s', r = (.exit 0, lgE v m s') ∧ s'.l.length = m) := by
  obtain ⟨i, l, n⟩ := s
  obtain ⟨hi, hl⟩ := hs
  simp only at hi hl
  by_cases hlt : i < m
  · left
    have hlt2 : (i : Int) < (m : Int) := by omega
    have e3 := wrap1 (i := i) (by omega)
    have e7 : (brow l).length = m := by simp [brow, hl]
    have e6 : (brow l).set i [.int .u8 97] = brow (l.set i 97) := brow_set l i 97
    have e8 : ∀ hh, ((brow l)[i]'hh).length = 1 := by intro hh; simp [brow]
    have e9 : ∀ hh, ((brow l)[i]'hh).drop 1 = [] := by intro hh; simp [brow]
    have hh : ∃ n', exC (run M) k spec_l01Long.l0 (lgS v m ⟨i, l, n⟩) = some (.normal, lgS v m ⟨i + 1, l.set i 97, n'⟩) := by
      simp only [lgS, ← e6]
      generalize brow l = rl at *
      simp (maxSteps := 1000000) [spec_l01Long.l0, List.range_succ, bs_get, setAt, hlt, hlt2, e3, e7, e8, e9]
    obtain ⟨n', hh⟩ := hh
    exact ⟨_, hh, ⟨by simp only; omega, by simp [hl]⟩, by simp only; omega⟩
  · right
    have hlt2 : ¬ (i : Int) < (m : Int) := by omega
    have hh : ∃ n', exC (run M) k spec_l01Long.l0 (lgS v m ⟨i, l, n⟩) = some (.exit 0, lgE v m ⟨i, l, n'⟩) := by
      simp only [lgS, lgE]
      simp (maxSteps := 1000000) [spec_l01Long.l0, List.range_succ, bs_get, setAt, hlt, hlt2]
    obtain ⟨n', hh⟩ := hh
    exact ⟨_, hh, by simp, _, rfl, hl⟩
theorem brow_zeros (m : Nat) : brow (List.replicate m 0) = List.replicate m [.int .u8 0] := by simp [brow]
theorem spec_l01Long.says (h : spec_l01Long.k M) (m : Nat) (hm : m ≤ 1000) : ∃ s : List UInt8, s.length = m ∧ run M 176 [.c (I m), .c (.int .u8 97)] [] = some (.c (S s), []) := by
  obtain ⟨r, hr, ⟨⟨j, l, n⟩, rfl, hl⟩⟩ := loop_ex (f := exC (run M) (m + 1) spec_l01Long.l0) (lgS 2000032 m) (fun s => s.i ≤ m ∧ s.l.length = m) (fun s => m - s.i) (fun r => ∃ s', r = (.exit 0, lgE 2000032 m s') ∧ s'.l.length = m)
    (fun s hs => lg_turn (m + 1) 2000032 m hm s hs) (m + 1) ⟨0, List.replicate m 0, 2000080⟩ ⟨by simp, by simp⟩ (by simp)
  simp only at hl
  refine ⟨l, hl, run_code (b := spec_l01Long.m) h ⟨m + 1, ?_⟩⟩
  simp only [lgS, lgE, brow_zeros] at hr
  have e7 : (brow l).length = m := by simp [brow, hl]
  have e8 : (brow l).take m = brow l := List.take_of_length_le (by omega)
  have e9 : m ≤ 4294967296 := by omega
  have e10 : m ≤ 140737488355328 := by omega
  simp at hr
  simp (maxSteps := 1000000) [exB, spec_l01Long.m, spec_l01Long.b, List.range_succ, bs_get, setAt, hr, e7, e8, e9, e10]
end Mx

namespace Mx
open Go
variable {M : Nat → Option Body}
theorem spec_l05Any.says (h : spec_l05Any.k M) {R : List (List T)} (hR : Bytes R) (i : Nat) (q : Int) (hi : i ≤ R.length) :
    ∃ (m : Mail) (i' : Nat) (q' : Int), m.flags.length ≤ 4 ∧ i' ≤ R.length ∧ (m.gid < 10 ∨ 18 < m.gid) ∧ run M 237 [.c (.ptr 0 0 0 0)] [curD R i q] = some (.a [I m.gid, I m.uid, .sl false 3 (m.flags.map encReg), S m.text], [curD R i' q']) := by
  obtain ⟨hm, kb, kl, km, ka⟩ := h
  obtain ⟨x, i1, q1, hx, hi1, h1⟩ := spec_l01Below.says kb hR i q hi 10 (by omega) (by omega)
  obtain ⟨y, i2, q2, hy, hi2, h2⟩ := spec_l01Below.says kb hR i1 q1 hi1 60 (by omega) (by omega)
  obtain ⟨m, i3, q3, hl, hi3, hgid, h3⟩ := spec_l05Mail.says km hR i2 q2 hi2
  simp only [Int.cast_ofNat_Int] at h1 h2
  have e7 : (m.flags.map encReg).length = 3 := by simp [hl]
  by_cases c0 : x = 0
  · have d0 : (x : Int) = 0 := by omega
    obtain ⟨z, hz, ez⟩ := tmod_small y 4 (by omega)
    simp only [Int.cast_ofNat_Int] at ez
    have hz4 : z = 0 ∨ z = 1 ∨ z = 2 ∨ z = 3 := by omega
    rcases hz4 with rfl | rfl | rfl | rfl
    · refine ⟨⟨0, m.uid, m.flags, m.text⟩, i3, q3, by simp only; omega, hi3, by simp only; omega, run_code (b := spec_l05Any.m) hm ⟨0, ?_⟩⟩
      simp only
      generalize m.flags.map encReg = rl at *
      simp (maxSteps := 1000000) [exB, spec_l05Any.m, spec_l05Any.b, List.range_succ, bs_get, setAt, h1, h2, h3, ez, c0, d0, e7]
    · refine ⟨⟨9999, m.uid, m.flags, m.text⟩, i3, q3, by simp only; omega, hi3, by simp only; omega, run_code (b := spec_l05Any.m) hm ⟨0, ?_⟩⟩
      simp only
      generalize m.flags.map encReg = rl at *
      simp (maxSteps := 1000000) [exB, spec_l05Any.m, spec_l05Any.b, List.range_succ, bs_get, setAt, h1, h2, h3, ez, c0, d0, e7]
    · refine ⟨⟨10000, m.uid, m.flags, m.text⟩, i3, q3, by simp only; omega, hi3, by simp only; omega, run_code (b := spec_l05Any.m) hm ⟨0, ?_⟩⟩
      simp only
      generalize m.flags.map encReg = rl at *
      simp (maxSteps := 1000000) [exB, spec_l05Any.m, spec_l05Any.b, List.range_succ, bs_get, setAt, h1, h2, h3, ez, c0, d0, e7]
    · refine ⟨⟨(-1), m.uid, m.flags, m.text⟩, i3, q3, by simp only; omega, hi3, by simp only; omega, run_code (b := spec_l05Any.m) hm ⟨0, ?_⟩⟩
      simp only
      generalize m.flags.map encReg = rl at *
      simp (maxSteps := 1000000) [exB, spec_l05Any.m, spec_l05Any.b, List.range_succ, bs_get, setAt, h1, h2, h3, ez, c0, d0, e7]
  have d0 : ¬ (x : Int) = 0 := by omega
  by_cases c1 : x = 1
  · have d1 : (x : Int) = 1 := by omega
    obtain ⟨z, hz, ez⟩ := tmod_small y 3 (by omega)
    simp only [Int.cast_ofNat_Int] at ez
    have hz4 : z = 0 ∨ z = 1 ∨ z = 2 := by omega
    rcases hz4 with rfl | rfl | rfl
    · refine ⟨⟨m.gid, 0, m.flags, m.text⟩, i3, q3, by simp only; omega, hi3, by simp only; omega, run_code (b := spec_l05Any.m) hm ⟨0, ?_⟩⟩
      simp only
      generalize m.flags.map encReg = rl at *
      simp (maxSteps := 1000000) [exB, spec_l05Any.m, spec_l05Any.b, List.range_succ, bs_get, setAt, h1, h2, h3, ez, c0, d0, c1, d1, e7]
    · refine ⟨⟨m.gid, 9999, m.flags, m.text⟩, i3, q3, by simp only; omega, hi3, by simp only; omega, run_code (b := spec_l05Any.m) hm ⟨0, ?_⟩⟩
      simp only
      generalize m.flags.map encReg = rl at *
      simp (maxSteps := 1000000) [exB, spec_l05Any.m, spec_l05Any.b, List.range_succ, bs_get, setAt, h1, h2, h3, ez, c0, d0, c1, d1, e7]
    · refine ⟨⟨m.gid, 10000, m.flags, m.text⟩, i3, q3, by simp only; omega, hi3, by simp only; omega, run_code (b := spec_l05Any.m) hm ⟨0, ?_⟩⟩
      simp only
      generalize m.flags.map encReg = rl at *
      simp (maxSteps := 1000000) [exB, spec_l05Any.m, spec_l05Any.b, List.range_succ, bs_get, setAt, h1, h2, h3, ez, c0, d0, c1, d1, e7]
  have d1 : ¬ (x : Int) = 1 := by omega
  by_cases c2 : x = 2
  · have d2 : (x : Int) = 2 := by omega
    obtain ⟨fl, i4, q4, hl4, hi4, h4⟩ := spec_l04Any.says ka hR i3 q3 hi3
    refine ⟨⟨m.gid, m.uid, fl, m.text⟩, i4, q4, hl4, hi4, by simp only; omega, run_code (b := spec_l05Any.m) hm ⟨0, ?_⟩⟩
    simp only
    generalize m.flags.map encReg = rl at *
    generalize fl.map encReg = rl2 at *
    simp (maxSteps := 1000000) [exB, spec_l05Any.m, spec_l05Any.b, List.range_succ, bs_get, setAt, h1, h2, h3, h4, c0, d0, c1, d1, c2, d2, e7]
  have d2 : ¬ (x : Int) = 2 := by omega
  by_cases c3 : x = 3
  · have d3 : (x : Int) = 3 := by omega
    obtain ⟨z, hz, ez⟩ := tmod_small y 2 (by omega)
    simp only [Int.cast_ofNat_Int] at ez
    have e9 : IntKind.i64.wrap (60 + (z : Int)) = ((60 + z : Nat) : Int) := wrap_i64 (by omega) (by omega)
    obtain ⟨w, hw⟩ : ∃ w, 60 + z = w := ⟨_, rfl⟩
    rw [hw] at e9
    obtain ⟨s, hs, h4⟩ := spec_l01Long.says kl w (by omega)
    refine ⟨⟨m.gid, m.uid, m.flags, s⟩, i3, q3, by simp only; omega, hi3, by simp only; omega, run_code (b := spec_l05Any.m) hm ⟨0, ?_⟩⟩
    simp only
    generalize m.flags.map encReg = rl at *
    simp (maxSteps := 1000000) [exB, spec_l05Any.m, spec_l05Any.b, List.range_succ, bs_get, setAt, h1, h2, h3, h4, ez, e9, c0, d0, c1, d1, c2, d2, c3, d3, e7]
  have d3 : ¬ (x : Int) = 3 := by omega
  refine ⟨m, i3, q3, by omega, hi3, by omega, run_code (b := spec_l05Any.m) hm ⟨0, ?_⟩⟩
  generalize m.flags.map encReg = rl at *
  simp (maxSteps := 1000000) [exB, spec_l05Any.m, spec_l05Any.b, List.range_succ, bs_get, setAt, h1, h2, h3, c0, d0, c1, d1, c2, d2, c3, d3, e7]
end Mx

namespace Mx
open Go
variable {M : Nat → Option Body}
theorem Good.flags {b : Box} (h : Good b) : ∀ m ∈ b.mails, m.flags.length ≤ 4 := fun m hm => by have := (mailOk_vars (h.mail m hm).1).2.2.1; omega
theorem nodup_range : ∀ (n : Nat) (lo : Int) (l : List Int), l.Nodup → (∀ x ∈ l, lo ≤ x ∧ x < lo + n) → l.length ≤ n
  | 0, lo, l, _, h => by
    cases l with
    | nil => simp
    | cons x l => have := h x (List.mem_cons_self ..); omega
  | n + 1, lo, l, hn, h => by
    have h1 := nodup_range n lo (l.erase (lo + n)) (hn.erase _) fun x hx => by
      obtain ⟨q1, q2⟩ := hn.mem_erase_iff.1 hx
      have := h x q2
      omega
    have h2 := List.le_length_erase (a := lo + (n : Int)) (l := l)
    omega
theorem drawn_len {i : Nat} {b : Box} (h : Drawn i b) : b.mails.length ≤ 9 := by
  have h1 := nodup_range 9 10 (b.mails.map (·.gid)) (List.pairwise_map.2 h.good.gids) fun x hx => by
    obtain ⟨m, hm, rfl⟩ := List.mem_map.1 hx
    have := h.m m hm
    omega
  simpa using h1
set_option maxHeartbeats 4000000 in
theorem spec_l06Any.wild (h : spec_l06Any.k M) {R : List (List T)} (hR : Bytes R) (i : Nat) (q : Int) (hi : i ≤ R.length) :
    ∃ (b : Box) (i' : Nat) (q' : Int), ((BoxIn b ∧ b.mails.Pairwise (fun a c => a.gid ≠ c.gid)) ∧ b.mails.length ≤ 10 ∧ b.gone.length ≤ 50 ∧ 0 ≤ b.next ∧ b.next ≤ 100) ∧ i' ≤ R.length ∧ run M 173 [.c (.ptr 0 0 0 0)] [curD R i q] = some (.a (encBoxO b), [curD R i' q']) := by
  obtain ⟨hm, kb, kx, ks, kc, km⟩ := h
  obtain ⟨x, i1, q1, hx, hi1, h1⟩ := spec_l01Below.says kb hR i q hi 14 (by omega) (by omega)
  obtain ⟨y, i2, q2, hy, hi2, h2⟩ := spec_l01Below.says kb hR i1 q1 hi1 60 (by omega) (by omega)
  obtain ⟨b, i3, q3, hD, hi3, h3⟩ := spec_l06Box.says kx hR i2 q2 hi2
  have hB := hD.good.inB
  have h4 := spec_l06Copy.says kc b hB
  simp only [Int.cast_ofNat_Int] at h1 h2
  have e7 : (b.mails.map encMail).length = b.mails.length := by simp
  have e8 := irow_length b.gone
  have hml := hD.good.len
  have hgl := hD.gl
  have hm9 := drawn_len hD
  have hnx := hD.nx
  have hnx1 := hD.good.next.1
  have e11 : (b.mails.map encMail).take b.mails.length = b.mails.map encMail := List.take_of_length_le (by omega)
  have e12 : (irow b.gone).take b.gone.length = irow b.gone := List.take_of_length_le (by omega)
  simp only [encBox, encBoxO, mails, ints] at h3 h4 ⊢
  by_cases c0 : x = 0
  · have d0 : (x : Int) = 0 := by omega
    obtain ⟨z, hz, ez⟩ := tmod_small y 3 (by omega)
    simp only [Int.cast_ofNat_Int] at ez
    refine ⟨{ b with gid := z }, i3, q3, ?_, hi3, run_code (b := spec_l06Any.m) hm ⟨0, ?_⟩⟩
    · exact ⟨⟨⟨hB.m, hB.g, hB.n, hB.f⟩, hD.good.gids⟩, ⟨by first | omega | (simp only; omega) | (simp; omega), by first | omega | (simp only; omega) | (simp; omega), by first | omega | (simp only; omega) | (simp; omega), by first | omega | (simp only; omega) | (simp; omega)⟩⟩
    simp only
    generalize b.mails.map encMail = rm at *
    generalize irow b.gone = rg at *
    simp (maxSteps := 1000000) [exB, spec_l06Any.m, spec_l06Any.b, List.range_succ, bs_get, setAt, h1, h2, h3, h4, c0, d0, e7, e8, e11, e12, ez]
  have d0 : ¬ (x : Int) = 0 := by omega
  by_cases c1 : x = 1
  · have d1 : (x : Int) = 1 := by omega
    obtain ⟨z, hz, ez⟩ := tmod_small y 3 (by omega)
    simp only [Int.cast_ofNat_Int] at ez
    have hz4 : z = 0 ∨ z = 1 ∨ z = 2 := by omega
    rcases hz4 with rfl | rfl | rfl
    · skip
      refine ⟨{ b with name := [] }, i3, q3, ?_, hi3, run_code (b := spec_l06Any.m) hm ⟨0, ?_⟩⟩
      · exact ⟨⟨⟨hB.m, hB.g, by simp, hB.f⟩, hD.good.gids⟩, ⟨by first | omega | (simp only; omega) | (simp; omega), by first | omega | (simp only; omega) | (simp; omega), by first | omega | (simp only; omega) | (simp; omega), by first | omega | (simp only; omega) | (simp; omega)⟩⟩
      simp only
      generalize b.mails.map encMail = rm at *
      generalize irow b.gone = rg at *
      simp (maxSteps := 1000000) [exB, spec_l06Any.m, spec_l06Any.b, List.range_succ, bs_get, setAt, h1, h2, h3, h4, c0, d0, c1, d1, e7, e8, e11, e12, ez]
    · skip
      refine ⟨{ b with name := [65] }, i3, q3, ?_, hi3, run_code (b := spec_l06Any.m) hm ⟨0, ?_⟩⟩
      · exact ⟨⟨⟨hB.m, hB.g, by simp, hB.f⟩, hD.good.gids⟩, ⟨by first | omega | (simp only; omega) | (simp; omega), by first | omega | (simp only; omega) | (simp; omega), by first | omega | (simp only; omega) | (simp; omega), by first | omega | (simp only; omega) | (simp; omega)⟩⟩
      simp only
      generalize b.mails.map encMail = rm at *
      generalize irow b.gone = rg at *
      simp (maxSteps := 1000000) [exB, spec_l06Any.m, spec_l06Any.b, List.range_succ, bs_get, setAt, h1, h2, h3, h4, c0, d0, c1, d1, e7, e8, e11, e12, ez]
    · skip
      refine ⟨{ b with name := [116, 104, 105, 114, 116, 101, 101, 110, 115, 105, 103, 110, 115] }, i3, q3, ?_, hi3, run_code (b := spec_l06Any.m) hm ⟨0, ?_⟩⟩
      · exact ⟨⟨⟨hB.m, hB.g, by simp, hB.f⟩, hD.good.gids⟩, ⟨by first | omega | (simp only; omega) | (simp; omega), by first | omega | (simp only; omega) | (simp; omega), by first | omega | (simp only; omega) | (simp; omega), by first | omega | (simp only; omega) | (simp; omega)⟩⟩
      simp only
      generalize b.mails.map encMail = rm at *
      generalize irow b.gone = rg at *
      simp (maxSteps := 1000000) [exB, spec_l06Any.m, spec_l06Any.b, List.range_succ, bs_get, setAt, h1, h2, h3, h4, c0, d0, c1, d1, e7, e8, e11, e12, ez]
  have d1 : ¬ (x : Int) = 1 := by omega
  by_cases c2 : x = 2
  · have d2 : (x : Int) = 2 := by omega
    obtain ⟨z, hz, ez⟩ := tmod_small y 5 (by omega)
    simp only [Int.cast_ofNat_Int] at ez
    refine ⟨{ b with next := z }, i3, q3, ?_, hi3, run_code (b := spec_l06Any.m) hm ⟨0, ?_⟩⟩
    · exact ⟨⟨⟨hB.m, hB.g, hB.n, hB.f⟩, hD.good.gids⟩, ⟨by first | omega | (simp only; omega) | (simp; omega), by first | omega | (simp only; omega) | (simp; omega), by first | omega | (simp only; omega) | (simp; omega), by first | omega | (simp only; omega) | (simp; omega)⟩⟩
    simp only
    generalize b.mails.map encMail = rm at *
    generalize irow b.gone = rg at *
    simp (maxSteps := 1000000) [exB, spec_l06Any.m, spec_l06Any.b, List.range_succ, bs_get, setAt, h1, h2, h3, h4, c0, d0, c1, d1, c2, d2, e7, e8, e11, e12, ez]
  have d2 : ¬ (x : Int) = 2 := by omega
  by_cases c3 : x = 3
  · have d3 : (x : Int) = 3 := by omega
    obtain ⟨m, i4, q4, hl4, hi4, hgid, h5⟩ := spec_l05Any.says km hR i3 q3 hi3
    have e13 : b.mails.length + 1 ≤ 4294967296 := by omega
    have e14 : (b.mails ++ [m]).map encMail = b.mails.map encMail ++ [[I m.gid, I m.uid, .sl false 3 (m.flags.map encReg), S m.text]] := by simp
    refine ⟨{ b with mails := b.mails ++ [m] }, i4, q4, ?_, hi4, run_code (b := spec_l06Any.m) hm ⟨0, ?_⟩⟩
    · refine ⟨⟨⟨by simp; omega, hB.g, hB.n, fun m' hm' => ?_⟩, List.pairwise_append.2 ⟨hD.good.gids, List.pairwise_singleton _ _, fun a ha c hc => by
        simp only [List.mem_singleton] at hc; subst hc; have := hD.m a ha; omega⟩⟩, ⟨by first | omega | (simp only; omega) | (simp; omega), by first | omega | (simp only; omega) | (simp; omega), by first | omega | (simp only; omega) | (simp; omega), by first | omega | (simp only; omega) | (simp; omega)⟩⟩
      rcases List.mem_append.1 hm' with w | w
      · exact hB.f m' w
      · simp only [List.mem_singleton] at w; subst w; omega
    simp only
    rw [e14]
    generalize m.flags.map encReg = rl at *
    generalize b.mails.map encMail = rm at *
    generalize irow b.gone = rg at *
    simp (maxSteps := 1000000) [exB, spec_l06Any.m, spec_l06Any.b, List.range_succ, bs_get, setAt, h1, h2, h3, h4, h5, c0, d0, c1, d1, c2, d2, c3, d3, e7, e8, e11, e12, e13]
    exact List.take_of_length_le (by simp; omega)
  have d3 : ¬ (x : Int) = 3 := by omega
  by_cases c4 : x = 4
  · have d4 : (x : Int) = 4 := by omega
    have e13 : b.gone.length + 1 ≤ 4294967296 := by omega
    have e14 : irow (b.gone ++ [(y : Int)]) = irow b.gone ++ [[I y]] := irow_snoc b.gone y
    refine ⟨{ b with gone := b.gone ++ [(y : Int)] }, i3, q3, ?_, hi3, run_code (b := spec_l06Any.m) hm ⟨0, ?_⟩⟩
    · exact ⟨⟨⟨hB.m, by simp; omega, hB.n, hB.f⟩, hD.good.gids⟩, ⟨by first | omega | (simp only; omega) | (simp; omega), by first | omega | (simp only; omega) | (simp; omega), by first | omega | (simp only; omega) | (simp; omega), by first | omega | (simp only; omega) | (simp; omega)⟩⟩
    simp only
    rw [e14]
    generalize b.mails.map encMail = rm at *
    generalize irow b.gone = rg at *
    simp (maxSteps := 1000000) [exB, spec_l06Any.m, spec_l06Any.b, List.range_succ, bs_get, setAt, h1, h2, h3, h4, c0, d0, c1, d1, c2, d2, c3, d3, c4, d4, e7, e8, e11, e12, e13]
    exact List.take_of_length_le (by simp; omega)
  have d4 : ¬ (x : Int) = 4 := by omega
  by_cases c5 : x = 5
  · have d5 : (x : Int) = 5 := by omega
    obtain ⟨t, w, i4, q4, hi4, h5⟩ := spec_l03Any.says ks hR i3 q3 hi3
    refine ⟨{ b with time := t, who := w }, i4, q4, ?_, hi4, run_code (b := spec_l06Any.m) hm ⟨0, ?_⟩⟩
    · exact ⟨⟨⟨hB.m, hB.g, hB.n, hB.f⟩, hD.good.gids⟩, ⟨by first | omega | (simp only; omega) | (simp; omega), by first | omega | (simp only; omega) | (simp; omega), by first | omega | (simp only; omega) | (simp; omega), by first | omega | (simp only; omega) | (simp; omega)⟩⟩
    simp only
    generalize b.mails.map encMail = rm at *
    generalize irow b.gone = rg at *
    simp (maxSteps := 1000000) [exB, spec_l06Any.m, spec_l06Any.b, List.range_succ, bs_get, setAt, h1, h2, h3, h4, h5, c0, d0, c1, d1, c2, d2, c3, d3, c4, d4, c5, d5, e7, e8, e11, e12]
  have d5 : ¬ (x : Int) = 5 := by omega
  refine ⟨b, i3, q3, ?_, hi3, run_code (b := spec_l06Any.m) hm ⟨0, ?_⟩⟩
  · exact ⟨⟨hB, hD.good.gids⟩, ⟨by first | omega | (simp only; omega) | (simp; omega), by first | omega | (simp only; omega) | (simp; omega), by first | omega | (simp only; omega) | (simp; omega), by first | omega | (simp only; omega) | (simp; omega)⟩⟩
  generalize b.mails.map encMail = rm at *
  generalize irow b.gone = rg at *
  simp (maxSteps := 1000000) [exB, spec_l06Any.m, spec_l06Any.b, List.range_succ, bs_get, setAt, h1, h2, h3, h4, c0, d0, c1, d1, c2, d2, c3, d3, c4, d4, c5, d5, e7, e8, e11, e12]
end Mx

namespace Mx
open Go
theorem Good.nd {b : Box} (h : Good b) : (Mx.gids b.mails).Nodup := List.pairwise_map.2 h.gids
end Mx

namespace Mx
open Go
variable {M : Nat → Option Body}
theorem gput_le (l : List Int) (x : Int) : (gput l x).length ≤ l.length + 1 := by
  have h : ∀ l : List Int, (l.filter (fun y => decide (y < x))).length + (l.filter (fun y => decide (x < y))).length ≤ l.length := by
    intro l
    induction l with
    | nil => simp
    | cons a l ih =>
      simp only [List.filter_cons]
      by_cases c1 : a < x
      · have c2 : ¬ x < a := by omega
        simp [c1, c2]; omega
      · by_cases c2 : x < a
        · simp [c1, c2]; omega
        · simp [c1, c2]; omega
  have := h l
  simp only [gput, List.length_append, List.length_singleton]; omega
end Mx

namespace Mx
open Go
variable {M : Nat → Option Body}
deriving instance DecidableEq for Reg
deriving instance DecidableEq for Mail
deriving instance DecidableEq for Box
/-- two lists of one length, element by element -/
theorem eq_loop {α : Type} [DecidableEq α] (la lb : List α) (hl : la.length = lb.length) {f : St → Option (Out × St)} {β : Type} (S : Nat → β → St) (c e : Nat) (E : β → St)
    (h1 : ∀ i (h : i < la.length) (h' : i < lb.length) x, la[i] = lb[i] → ∃ y, f (S i x) = some (.normal, S (i + 1) y))
    (h2 : ∀ i (h : i < la.length) (h' : i < lb.length) x, ¬ la[i] = lb[i] → ∃ n, f (S i x) = some (.ret, { t := [(c, .c (.bool false))], o := [], n := n }))
    (h3 : ∀ x, ∃ y, f (S la.length x) = some (.exit e, E y)) :
    ∃ g : β → β × Nat, ∀ x, loopN f (la.length + 1) (S 0 x) = some (if la = lb then (.exit e, E (g x).1) else (.ret, { t := [(c, .c (.bool false))], o := [], n := (g x).2 })) := by
  have key := loop_all (f := f) S (fun i => i ≤ la.length) (fun i => la.length - i) (fun i => decide (la.drop i = lb.drop i))
    (fun q (m : β × Nat) => if q = true then (.exit e, E m.1) else (.ret, { t := [(c, .c (.bool false))], o := [], n := m.2 })) (by
      intro i x hi
      by_cases hlt : i < la.length
      · have hlt' : i < lb.length := by omega
        have hd : (la.drop i = lb.drop i) ↔ (la[i] = lb[i] ∧ la.drop (i + 1) = lb.drop (i + 1)) := by
          rw [List.drop_eq_getElem_cons hlt, List.drop_eq_getElem_cons hlt', List.cons.injEq]
        by_cases c' : la[i] = lb[i]
        · obtain ⟨y, hy⟩ := h1 i hlt hlt' x c'
          exact .inl ⟨i + 1, y, hy, hlt, by omega, by rw [decide_eq_decide, hd]; simp [c']⟩
        · obtain ⟨n, hn⟩ := h2 i hlt hlt' x c'
          have hf : decide (la.drop i = lb.drop i) = false := decide_eq_false fun q => c' (hd.1 q).1
          exact .inr ⟨(x, n), by rw [hn, hf]; simp, by rw [hf]; simp⟩
      · have : i = la.length := by omega
        subst this
        obtain ⟨y, hy⟩ := h3 x
        have hd : lb.drop la.length = [] := List.drop_eq_nil_of_le (by omega)
        exact .inr ⟨(y, 0), by rw [hy]; simp [hd], by simp [hd]⟩) (la.length + 1) 0 (Nat.zero_le _) (by omega)
  obtain ⟨g, hg⟩ := key
  refine ⟨g, fun x => ?_⟩
  rw [hg x]
  simp only [List.drop_zero, decide_eq_true_eq]
theorem reg_ext {x y : Reg} (h1 : x.val = y.val) (h2 : x.time = y.time) (h3 : x.who = y.who) : x = y := by
  cases x; cases y; simp_all
theorem mail_ext {x y : Mail} (h1 : x.gid = y.gid) (h2 : x.uid = y.uid) (h3 : x.flags = y.flags) (h4 : x.text = y.text) : x = y := by
  cases x; cases y; simp_all
theorem box_ext {x y : Box} (h1 : x.gid = y.gid) (h2 : x.name = y.name) (h3 : x.time = y.time) (h3' : x.who = y.who) (h4 : x.next = y.next) (h5 : x.mails = y.mails) (h6 : x.gone = y.gone) : x = y := by
  cases x; cases y; simp_all
def smS (a b : Mail) (i : Nat) (x : Nat × Nat × Nat) : St := { t := [(2, .c (.ptr 2 x.1 0 0)), (3, .c (.ptr 3 x.2.1 0 0)), (5, .c (I i))], o := [(2, ⟨x.1, 4, true, true, [encMail a]⟩), (3, ⟨x.2.1, 4, true, true, [encMail b]⟩)], n := x.2.2 }
def smE (a b : Mail) (x : Nat × Nat × Nat) : St := { t := [(2, .c (.ptr 2 x.1 0 0)), (3, .c (.ptr 3 x.2.1 0 0)), (5, .c (I a.flags.length)), (38, .c (.bool false))], o := [(2, ⟨x.1, 4, true, true, [encMail a]⟩), (3, ⟨x.2.1, 4, true, true, [encMail b]⟩)], n := x.2.2 }
theorem spec_SameMail.says (h : spec_SameMail.k M) (a b : Mail) (ha : a.flags.length ≤ 1048576) : run M 159 [.a (encMail a), .a (encMail b)] [] = some (.c (.bool (decide (a = b))), []) := by
  refine run_code (b := spec_SameMail.m) h ⟨a.flags.length + 1, ?_⟩
  by_cases c1 : a.gid = b.gid
  rotate_left
  · have hne : ¬ a = b := fun q => c1 (by rw [q])
    simp [exB, spec_SameMail.m, spec_SameMail.b, List.range_succ, c1, hne]
  by_cases c2 : a.uid = b.uid
  rotate_left
  · have hne : ¬ a = b := fun q => c2 (by rw [q])
    simp [exB, spec_SameMail.m, spec_SameMail.b, List.range_succ, c1, c2, hne]
  by_cases c3 : a.text = b.text
  rotate_left
  · have hne : ¬ a = b := fun q => c3 (by rw [q])
    simp [exB, spec_SameMail.m, spec_SameMail.b, List.range_succ, c1, c2, c3, hne]
  by_cases c4 : a.flags.length = b.flags.length
  rotate_left
  · have hne : ¬ a = b := fun q => c4 (by rw [q])
    have c4' : ¬ (a.flags.length : Int) = b.flags.length := by omega
    simp [exB, spec_SameMail.m, spec_SameMail.b, List.range_succ, c1, c2, c3, c4, c4', hne]
  obtain ⟨g, hr⟩ := eq_loop a.flags b.flags c4 (f := exC (run M) (a.flags.length + 1) spec_SameMail.l0) (smS a b) 4 0 (smE a b)
    (fun i hi hi' x c => by
      obtain ⟨v, w, x⟩ := x
      have e5 := wrap1 (i := i) (by omega)
      simp only [Prod.exists]
      simp [smS, spec_SameMail.l0, hi, hi', e5, encReg, eqL, eqT, c])
    (fun i hi hi' x c => by
      obtain ⟨v, w, x⟩ := x
      by_cases q1 : a.flags[i].val = b.flags[i].val <;> by_cases q2 : a.flags[i].time = b.flags[i].time <;> by_cases q3 : a.flags[i].who = b.flags[i].who <;>
        first
        | exact absurd (reg_ext q1 q2 q3) c
        | simp [smS, spec_SameMail.l0, hi, hi', encReg, eqL, eqT, q1, q2, q3])
    (fun x => by
      obtain ⟨v, w, x⟩ := x
      simp only [Prod.exists]
      simp [smS, smE, spec_SameMail.l0])
  by_cases c5 : a.flags = b.flags
  · have he : a = b := mail_ext c1 c2 c5 c3
    simp only [c5, if_true] at hr
    simp [smS, smE, encMail, ← c5] at hr
    subst he
    simp [exB, spec_SameMail.m, spec_SameMail.b, List.range_succ, hr]
  · have hne : ¬ a = b := fun q => c5 (by rw [q])
    simp only [c5, if_false] at hr
    simp [smS, smE, encMail, c1, c2, c3, c4] at hr
    simp [exB, spec_SameMail.m, spec_SameMail.b, List.range_succ, encMail, c1, c2, c3, c4, hr, hne]
end Mx

namespace Mx
open Go
variable {M : Nat → Option Body}
theorem laws_big.says (h : laws_big.k M) (R : List (List T)) (hl : R.length ≤ 9223372036854775807) : run M 36 [.c (.sl false 1 R)] [] = some (.c (.bool (decide (1048576 < R.length))), []) := by
  refine run_code (b := laws_big.m) h ⟨0, ?_⟩
  simp (maxSteps := 1000000) [exB, laws_big.m, laws_big.b, List.range_succ, bs_get, setAt]
  omega
end Mx

namespace Mx
open Go
variable {M : Nat → Option Body}
def renStep (acc : List Box) (x : Box) : List Box := acc ++ [if (acc.any fun y => decide (y.name = x.name)) = true then { x with name := otherName x.name x.gid } else x]
def ren (l : List Box) : List Box := l.foldl renStep []
structure GoodL (l : List Box) : Prop where
  len : l.length ≤ 5
  good : ∀ b ∈ l, Good b
end Mx

namespace Mx
open Go
variable {M : Nat → Option Body}
def renOne (acc : List Box) (x : Box) : Box := if (acc.any fun y => decide (y.name = x.name)) = true then { x with name := otherName x.name x.gid } else x
theorem renStep_eq (acc : List Box) (x : Box) : renStep acc x = acc ++ [renOne acc x] := rfl
theorem ren_fold_len : ∀ (l acc : List Box), (l.foldl renStep acc).length = acc.length + l.length
  | [], acc => by simp
  | x :: l, acc => by
    rw [List.foldl_cons, ren_fold_len l, renStep_eq]
    simp; omega
theorem ren_len (l : List Box) : (ren l).length = l.length := by unfold ren; rw [ren_fold_len]; simp
theorem boxIn_some {l : List Box} {g : Int} {b : Box} (h : boxIn l g = some b) : b ∈ l ∧ b.gid = g := ⟨List.mem_of_find?_eq_some h, by simpa using List.find?_some h⟩
end Mx

namespace Mx
open Go
variable {M : Nat → Option Body}
def gidsB (l : List Box) : List Int := l.map (·.gid)
def joinB (a b : List Box) (g : Int) : Box := match boxIn a g, boxIn b g with
  | some x, some y => joinBox x y
  | some x, none => x
  | none, some y => y
  | none, none => ⟨0, [], 0, 0, 0, [], []⟩
end Mx

namespace Mx
open Go
variable {M : Nat → Option Body}
def joinBoxesS (a b : List Box) (G : List Int) : List Box := ren (((joinGone (gidsB a) (gidsB b)).filter fun g => !decide (g ∈ G)).map (joinB a b))
end Mx

namespace Mx
open Go
variable {M : Nat → Option Body}
/-- the Gids of the mails of the first i boxes -/
def seenI (L : List Box) (i : Nat) : List Int := (L.take i).flatMap fun b => gids b.mails
def dedOne (L : List Box) (i : Nat) (x : Box) : Box := { x with mails := x.mails.filter fun m => !decide (m.gid ∈ seenI L i) }
def ded (L : List Box) : List Box := L.mapIdx fun i x => dedOne L i x
abbrev szero : List T := [I 0, I 0, .nils 7, .nils 1]
end Mx

namespace Mx
open Go
variable {M : Nat → Option Body}
structure Small (x : Box) : Prop where
  m : x.mails.length ≤ 20
  g : x.gone.length ≤ 80
  n : x.name.length ≤ 12
  f : ∀ m ∈ x.mails, m.flags.length ≤ 1048576
  d : (gids x.mails).Nodup
theorem Good.small {b : Box} (h : Good b) : Small b := ⟨by have := h.len; omega, by have := h.goneL; omega, (nameOk_len h.name).2, h.inB.f, h.nd⟩
structure StoreGood (s : Store) : Prop where
  boxes : GoodL s.boxes
  gone : s.gone.length ≤ 20
  asc : s.boxes.Pairwise fun x y => x.gid < y.gid
theorem storeOk_good {s : Store} (h : storeOk s = true) : StoreGood s := by
  simp only [storeOk, Bool.and_eq_true, decide_eq_true_eq, Option.isNone_iff_eq_none, firstN_isNone] at h
  obtain ⟨⟨⟨⟨_, _⟩, h3⟩, h4⟩, h5⟩ := h
  have hg := (gidsOk_iff.1 h4).2.2
  have hbad : ∀ i (hi : i < s.boxes.length), boxOk s.boxes[i] = true ∧ ∀ (q : 0 < i), (s.boxes[i - 1]'(by omega)).gid < s.boxes[i].gid := fun i hi => by
    have := h5 i hi
    rw [badAt_at hi, badBox_at hi] at this
    simp at this
    exact ⟨this.1.1.1.1.1, this.1.1.1.1.2⟩
  refine ⟨⟨h3, fun b hb => ?_⟩, by omega, ?_⟩
  · obtain ⟨i, hi, rfl⟩ := List.getElem_of_mem hb
    exact boxOk_iff.1 (hbad i hi).1
  · have hA : Asc (s.boxes.map (·.gid)) := step_asc fun j hj => by
      simp only [List.length_map] at hj
      have := (hbad (j + 1) hj).2 (by omega)
      simpa using this
    exact List.pairwise_map.1 hA
end Mx

namespace Mx
open Go
variable {M : Nat → Option Body}
def oaS (s : Store) (g : Int) (i : Nat) (x : Nat) : St := { t := [(1, .c (I g)), (2, .c (.ptr 2 2000000 0 0)), (5, .c (I i))], o := [(2, ⟨2000000, 4, true, true, [encStore s]⟩)], n := x }
theorem spec_BoxAt.says (h : spec_BoxAt.k M) (s : Store) (g : Int) (hl : s.boxes.length ≤ 1048576) : run M 196 [.a (encStore s), .c (I g)] [] = some (.c (I (intO (boxO s.boxes g))), []) := by
  refine run_code (b := spec_BoxAt.m) h ⟨s.boxes.length + 1, ?_⟩
  have er : (s.boxes.map encBox).length = s.boxes.length := by simp
  obtain ⟨g', hr⟩ := first_loop (f := exC (run M) (s.boxes.length + 1) spec_BoxAt.l0) s.boxes.length (pAt (fun b : Box => decide (b.gid = g)) s.boxes) (oaS s g) atFin atFin_ne
    (fun i hi x c => by
      rw [pAt_at _ _ _ hi] at c
      simp only [decide_eq_false_iff_not] at c
      have e5 := wrap1 (i := i) (by omega)
      have a1 : ∀ hh, (s.boxes.map encBox)[i]'hh = encBox s.boxes[i] := by intro hh; simp
      simp only [oaS, encStore, boxes, ints]
      simp only [encBox] at a1
      generalize s.boxes.map encBox = rb at *
      simp (maxSteps := 1000000) [spec_BoxAt.l0, List.range_succ, bs_get, setAt, hi, c, e5, er, a1])
    (fun i hi x c => by
      rw [pAt_at _ _ _ hi] at c
      simp only [decide_eq_true_eq] at c
      have a1 : ∀ hh, (s.boxes.map encBox)[i]'hh = encBox s.boxes[i] := by intro hh; simp
      simp only [oaS, encStore, boxes, ints]
      simp only [encBox] at a1
      generalize s.boxes.map encBox = rb at *
      simp (maxSteps := 1000000) [spec_BoxAt.l0, List.range_succ, bs_get, setAt, hi, c, er, a1, atFin]
      exact ⟨⟨[], [], _⟩, rfl⟩)
    (fun x => by
      simp only [oaS, encStore, boxes, ints]
      generalize s.boxes.map encBox = rb at *
      simp (maxSteps := 1000000) [spec_BoxAt.l0, List.range_succ, bs_get, setAt, er, atFin])
  unfold boxO
  cases hm : firstN (pAt (fun b : Box => decide (b.gid = g)) s.boxes) s.boxes.length with
  | none =>
    simp [oaS, hm, atFin] at hr
    simp only [encStore, boxes, ints] at *
    simp (maxSteps := 1000000) [exB, spec_BoxAt.m, spec_BoxAt.b, List.range_succ, bs_get, setAt, hr, intO]
  | some k =>
    simp [oaS, hm, atFin] at hr
    simp only [encStore, boxes, ints] at *
    simp (maxSteps := 1000000) [exB, spec_BoxAt.m, spec_BoxAt.b, List.range_succ, bs_get, setAt, hr, intO]
theorem spec_NextStamp.says (h : spec_NextStamp.k M) (s : Store) (hs : -1000000000 ≤ s.time ∧ s.time ≤ 1000000000) : run M 301 [.a (encStore s)] [] = some (.a [I (s.time + 1), I s.who], []) := by
  refine run_code (b := spec_NextStamp.m) h ⟨0, ?_⟩
  have e5 : IntKind.i64.wrap (s.time + 1) = s.time + 1 := wrap_i64 (by omega) (by omega)
  simp only [encStore, boxes, ints]
  simp (maxSteps := 1000000) [exB, spec_NextStamp.m, spec_NextStamp.b, List.range_succ, bs_get, setAt, e5]
def obO (s : Store) (i v : Nat) : List (Nat × Ob) := [(1, ⟨2000000, 4, true, true, [encStore s]⟩), (2, ⟨2000016, 4, true, true, [szero]⟩), (3, ⟨2000048, 4, true, true, [[I s.who, I s.time, .row 6 v 0 i, ints s.gone]]⟩), (6, ⟨v, 7, true, false, (s.boxes.take i).map encBox⟩)]
def obS (s : Store) (i : Nat) (x : Nat × Nat) : St := { t := [(1, .c (.ptr 1 2000000 0 0)), (2, .c (.ptr 2 2000016 0 0)), (3, .c (.ptr 3 2000048 0 0)), (4, .c (I i))], o := obO s i x.1, n := x.2 }
def obE (s : Store) (x : Nat × Nat) : St := { t := [(1, .c (.ptr 1 2000000 0 0)), (2, .c (.ptr 2 2000016 0 0)), (3, .c (.ptr 3 2000048 0 0)), (4, .c (I s.boxes.length)), (12, .c (.bool false))], o := obO s s.boxes.length x.1, n := x.2 }
set_option maxHeartbeats 1000000 in
theorem spec_l07Copy.says (h : spec_l07Copy.k M) (s : Store) (hs : StoreIn s) : run M 219 [.a (encStore s)] [] = some (.a (encStoreO s), []) := by
  obtain ⟨h0, k1⟩ := h
  have hbl := hs.b
  have hgl := hs.g
  refine run_code (b := spec_l07Copy.m) h0 ⟨s.boxes.length + 1, ?_⟩
  have er : (s.boxes.map encBox).length = s.boxes.length := by simp
  obtain ⟨g, hr⟩ := count_loop (f := exC (run M) (s.boxes.length + 1) spec_l07Copy.l0) s.boxes.length (obS s) 0 (obE s)
    (fun i hi x => by
      obtain ⟨v, n⟩ := x
      have h2 := spec_l06Copy.says k1 s.boxes[i] (hs.i _ (List.getElem_mem hi))
      have e5 := wrap1 (i := i) (by omega)
      have e6 : i + 1 ≤ 4294967296 := by omega
      have e7 : ((s.boxes.take i).map encBox).length = i := by simp; omega
      have e8 : ((s.boxes.take (i + 1)).map encBox) = (s.boxes.take i).map encBox ++ [encBox s.boxes[i]] := by rw [take_snoc _ _ hi, List.map_append]; rfl
      have a1 : ∀ hh, (s.boxes.map encBox)[i]'hh = encBox s.boxes[i] := by intro hh; simp
      simp only [Prod.exists, obS, obO, e8, encStore, boxes, ints]
      simp only [encBox, encBoxO, mails, ints] at h2 a1 ⊢
      generalize (s.boxes.take i).map encBox = rr at *
      generalize s.boxes.map encBox = rb at *
      generalize s.boxes[i].mails.map encMail = rm at *
      generalize irow s.boxes[i].gone = rg at *
      generalize irow s.gone = rs at *
      simp (maxSteps := 1000000) [spec_l07Copy.l0, List.range_succ, bs_get, setAt, hi, h2, e5, e6, e7, er, a1, List.take_of_length_le])
    (fun x => by
      obtain ⟨v, n⟩ := x
      simp only [Prod.exists, obS, obE, obO, encStore, boxes, ints]
      generalize (s.boxes.take s.boxes.length).map encBox = rr at *
      generalize s.boxes.map encBox = rb at *
      generalize irow s.gone = rs at *
      simp (maxSteps := 1000000) [spec_l07Copy.l0, List.range_succ, bs_get, setAt, er])
  have hr0 := hr (2000080, 2000144)
  generalize g (2000080, 2000144) = y at *
  obtain ⟨v, n⟩ := y
  have ez : ((0 : Nat) : Int) = 0 := rfl
  have eg := irow_length s.gone
  have e9 : s.gone.length ≤ 4294967296 := by omega
  simp only [obS, obE, obO, ez, List.take_zero, List.map_nil, List.take_length, encStore, boxes, ints] at hr0
  simp only [encStore, encStoreO, boxes, ints]
  generalize s.boxes.map encBox = rb at *
  generalize irow s.gone = rs at *
  simp (maxSteps := 1000000) [exB, spec_l07Copy.m, spec_l07Copy.b, List.range_succ, bs_get, setAt, hr0, er, eg, e9, List.take_of_length_le]
def knowsB (b : Box) (g : Int) : Bool := (mailO b.mails g).isSome || decide (g ∈ b.gone)
def knows (s : Store) (g : Int) : Bool := (boxO s.boxes g).isSome || decide (g ∈ s.gone) || s.boxes.any fun b => knowsB b g
def ocS (s : Store) (g : Int) (i : Nat) (x : Nat) : St := { t := [(1, .c (I g)), (2, .c (.ptr 2 2000000 0 0)), (5, .c (I i))], o := [(2, ⟨2000000, 4, true, true, [encStore s]⟩)], n := x }
def ocE (s : Store) (g : Int) (x : Nat) : St := { t := [(1, .c (I g)), (2, .c (.ptr 2 2000000 0 0)), (5, .c (I s.boxes.length)), (20, .c (.bool false))], o := [(2, ⟨2000000, 4, true, true, [encStore s]⟩)], n := x }
theorem any_first2 (p : Box → Bool) (l : List Box) : l.any p = (firstN (pAt p l) l.length).isSome := by
  cases q : firstN (pAt p l) l.length with
  | none =>
    have hn := firstN_none q
    have : l.any p = false := by
      rw [List.any_eq_false]
      intro b hb
      obtain ⟨j, hj, rfl⟩ := List.getElem_of_mem hb
      have := hn j hj
      rw [pAt_at _ _ _ hj] at this
      simp [this]
    rw [this]; rfl
  | some k =>
    obtain ⟨h1, h2, _⟩ := firstN_some q
    rw [pAt_at _ _ _ h1] at h2
    have : l.any p = true := List.any_eq_true.2 ⟨_, List.getElem_mem h1, h2⟩
    rw [this]; rfl
theorem intO_nonneg (q : Option Nat) : decide ((0 : Int) ≤ intO q) = q.isSome := by
  cases q with
  | none => rfl
  | some k => exact decide_eq_true (Int.natCast_nonneg k)
set_option maxHeartbeats 2000000 in
theorem spec_Knows.says (h : spec_Knows.k M) (s : Store) (g : Int) (hs : StoreIn s) : run M 300 [.a (encStore s), .c (I g)] [] = some (.c (.bool (knows s g)), []) := by
  obtain ⟨h0, ka, ki, kb⟩ := h
  have hbl := hs.b
  have hgl := hs.g
  have h1 := spec_BoxAt.says kb s g hbl
  have h2 := spec_l06In.says ki s.gone g (by omega)
  refine run_code (b := spec_Knows.m) h0 ⟨s.boxes.length + 1, ?_⟩
  have er : (s.boxes.map encBox).length = s.boxes.length := by simp
  obtain ⟨g', hr⟩ := early_loop (f := exC (run M) (s.boxes.length + 1) spec_Knows.l0) s.boxes.length (pAt (fun b => knowsB b g) s.boxes) (ocS s g) 4 (.bool true) 0 (ocE s g)
    (fun i hi x c => by
      rw [pAt_at _ _ _ hi] at c
      have hb := hs.i _ (List.getElem_mem hi)
      have h3 := spec_MailAt.says ka s.boxes[i] g hb.m
      have h4 := spec_l06In.says ki s.boxes[i].gone g (by have := hb.g; omega)
      have e5 := wrap1 (i := i) (by omega)
      have a1 : ∀ hh, (s.boxes.map encBox)[i]'hh = encBox s.boxes[i] := by intro hh; simp
      unfold knowsB at c
      simp only [Bool.or_eq_false_iff] at c
      obtain ⟨c1, c2⟩ := c
      rw [c2] at h4
      have c3 : ¬ (0 : Int) ≤ intO (mailO s.boxes[i].mails g) := by
        have := intO_nonneg (mailO s.boxes[i].mails g)
        rw [c1] at this; simpa using this
      simp only [ocS, encStore, boxes, ints]
      simp only [encBox, mails, ints] at h3 h4 a1
      generalize intO (mailO s.boxes[i].mails g) = z at *
      generalize s.boxes.map encBox = rb at *
      generalize s.boxes[i].mails.map encMail = rm at *
      generalize irow s.boxes[i].gone = rg at *
      simp (maxSteps := 1000000) [spec_Knows.l0, List.range_succ, bs_get, setAt, hi, h3, h4, c3, e5, er, a1, List.take_of_length_le])
    (fun i hi x c => by
      rw [pAt_at _ _ _ hi] at c
      have hb := hs.i _ (List.getElem_mem hi)
      have h3 := spec_MailAt.says ka s.boxes[i] g hb.m
      have h4 := spec_l06In.says ki s.boxes[i].gone g (by have := hb.g; omega)
      have a1 : ∀ hh, (s.boxes.map encBox)[i]'hh = encBox s.boxes[i] := by intro hh; simp
      unfold knowsB at c
      have c3 := intO_nonneg (mailO s.boxes[i].mails g)
      simp only [ocS, encStore, boxes, ints]
      simp only [encBox, mails, ints] at h3 h4 a1
      generalize intO (mailO s.boxes[i].mails g) = z at *
      generalize (mailO s.boxes[i].mails g).isSome = w at *
      generalize decide (g ∈ s.boxes[i].gone) = w2 at *
      generalize s.boxes.map encBox = rb at *
      generalize s.boxes[i].mails.map encMail = rm at *
      generalize irow s.boxes[i].gone = rg at *
      cases w
      · simp only [decide_eq_false_iff_not] at c3
        simp only [Bool.false_or] at c
        subst c
        simp (maxSteps := 1000000) [spec_Knows.l0, List.range_succ, bs_get, setAt, hi, h3, h4, c3, er, a1, List.take_of_length_le]
      · simp only [decide_eq_true_eq] at c3
        simp (maxSteps := 1000000) [spec_Knows.l0, List.range_succ, bs_get, setAt, hi, h3, c3, er, a1, List.take_of_length_le])
    (fun x => by
      simp only [ocS, ocE, encStore, boxes, ints]
      generalize s.boxes.map encBox = rb at *
      simp (maxSteps := 1000000) [spec_Knows.l0, List.range_succ, bs_get, setAt, er])
  have hany := any_first2 (fun b => knowsB b g) s.boxes
  have c0 := intO_nonneg (boxO s.boxes g)
  unfold knows
  rw [hany]
  generalize (boxO s.boxes g).isSome = w1 at *
  generalize intO (boxO s.boxes g) = z at *
  generalize decide (g ∈ s.gone) = w2 at *
  have ez : ((0 : Nat) : Int) = 0 := rfl
  cases w1
  · simp only [decide_eq_false_iff_not] at c0
    cases w2
    · cases hq : firstN (pAt (fun b => knowsB b g) s.boxes) s.boxes.length with
      | none =>
        simp only [ocS, ocE, hq, fin1, ez] at hr
        simp only [encStore, boxes, ints] at *
        simp (maxSteps := 1000000) [exB, spec_Knows.m, spec_Knows.b, List.range_succ, bs_get, setAt, h1, h2, c0, hr, List.take_of_length_le]
      | some q =>
        simp only [ocS, hq, fin1, ez] at hr
        simp only [encStore, boxes, ints] at *
        simp (maxSteps := 1000000) [exB, spec_Knows.m, spec_Knows.b, List.range_succ, bs_get, setAt, h1, h2, c0, hr, List.take_of_length_le]
    · simp only [encStore, boxes, ints] at *
      simp (maxSteps := 1000000) [exB, spec_Knows.m, spec_Knows.b, List.range_succ, bs_get, setAt, h1, h2, c0, List.take_of_length_le]
  · simp only [decide_eq_true_eq] at c0
    simp only [encStore, boxes, ints] at *
    simp (maxSteps := 1000000) [exB, spec_Knows.m, spec_Knows.b, List.range_succ, bs_get, setAt, h1, c0, List.take_of_length_le]
end Mx

namespace Mx
open Go
variable {M : Nat → Option Body}
theorem addMail_in {b : Box} (hb : BoxIn b) (g f : Int) (x : List UInt8) (t w : Int) : BoxIn (addMail b g f x t w).1 := by
  unfold addMail
  split
  · rename_i c
    exact (boxOk_iff.1 c.2.2.2.2).inB
  · exact hb
theorem flagMail_in {b : Box} (hb : BoxIn b) (g n t w : Int) : BoxIn (flagMail b g n t w).1 := by
  unfold flagMail
  split
  · exact hb
  · split
    · exact hb
    · rename_i k hk m hm
      split
      · refine ⟨by simpa using hb.m, hb.g, hb.n, fun m' hm' => ?_⟩
        obtain ⟨j, hj, rfl⟩ := List.getElem_of_mem hm'
        simp only [List.getElem_set]
        split
        · have e : (setFlags m.flags n t w).length = m.flags.length := by unfold setFlags; split <;> simp
          simp only [e]
          exact hb.f m (List.mem_of_getElem? hm)
        · exact hb.f _ (List.getElem_mem _)
      · exact hb
end Mx

namespace Mx
open Go
variable {M : Nat → Option Body}
def stampedTo (s : Store) (i : Nat) (b : Box) : Store := { s with boxes := s.boxes.set i b, time := s.time + 1 }
def stamped (s : Store) (i : Nat) (b : Box) : Store × Bool := if storeOk (stampedTo s i b) = true then (stampedTo s i b, true) else (s, false)
/-- what is asked of a store that something is done in -/
structure StoreT (s : Store) : Prop where
  in_ : StoreIn s
  time : -1000000000 ≤ s.time ∧ s.time ≤ 1000000000
theorem stampedTo_in {s : Store} (hs : StoreIn s) {i : Nat} (hi : i < s.boxes.length) {b : Box} (hb : BoxIn b) (hm : (s.boxes.flatMap gidsOf).length + b.mails.length ≤ 1048576) : StoreIn (stampedTo s i b) := by
  refine ⟨by simpa [stampedTo] using hs.b, hs.g, fun x hx => ?_, ?_⟩
  · rcases List.mem_or_eq_of_mem_set hx with q | q
    · exact hs.i x q
    · rw [q]; exact hb
  · have e : s.boxes.set i b = s.boxes.take i ++ b :: s.boxes.drop (i + 1) := List.set_eq_take_append_cons_drop.trans (by rw [if_pos hi])
    simp only [stampedTo]
    rw [e]
    have hsub : ((s.boxes.take i).flatMap gidsOf).length + ((s.boxes.drop (i + 1)).flatMap gidsOf).length ≤ (s.boxes.flatMap gidsOf).length := by
      conv => rhs; rw [← List.take_append_drop i s.boxes, List.drop_eq_getElem_cons hi]
      simp only [List.flatMap_append, List.flatMap_cons, List.length_append]
      omega
    simp only [List.flatMap_append, List.flatMap_cons, List.length_append, gidsOf, List.length_map] at hsub hm ⊢
    omega
set_option maxHeartbeats 2000000 in
theorem spec_l07Stamped.says (h : spec_l07Stamped.k M) (s : Store) (hs : StoreT s) (i : Nat) (hi : i < s.boxes.length) (b : Box) (hb : BoxIn b) (hm : (s.boxes.flatMap gidsOf).length + b.mails.length ≤ 1048576) :
    run M 302 [.a (encStore s), .c (I i), .a (encBox b)] [] = some (.tup [.a (encStoreO (stamped s i b).1), .c (.bool (stamped s i b).2)], []) := by
  obtain ⟨h0, ko, kc⟩ := h
  have ht := hs.time
  have h1 := spec_l07Copy.says kc s hs.in_
  have h2 := spec_StoreOk.says ko (stampedTo s i b) (stampedTo_in hs.in_ hi hb hm)
  refine run_code (b := spec_l07Stamped.m) h0 ⟨0, ?_⟩
  have e5 : IntKind.i64.wrap (s.time + 1) = s.time + 1 := wrap_i64 (by omega) (by omega)
  have er : (s.boxes.map encBox).length = s.boxes.length := by simp
  have eg := irow_length s.gone
  have es : (stampedTo s i b).boxes.map encBox = (s.boxes.map encBox).set i (encBox b) := by simp only [stampedTo, List.map_set]
  have ew : (stampedTo s i b).who = s.who := rfl
  have et : (stampedTo s i b).time = s.time + 1 := rfl
  have egn : (stampedTo s i b).gone = s.gone := rfl
  have a1 : ∀ hh, (s.boxes.map encBox)[i]'hh = encBox s.boxes[i] := by intro hh; simp
  unfold stamped
  cases c : storeOk (stampedTo s i b) with
  | true =>
    rw [c] at h2
    rw [if_pos rfl]
    simp only [encStore, encStoreO, boxes, ints, es, ew, et, egn] at h1 h2 ⊢
    clear es c
    simp only [encBox, mails, ints] at h2 a1 ⊢
    generalize s.boxes.map encBox = rb at *
    generalize irow s.gone = rs at *
    generalize s.boxes[i].mails.map encMail = r1 at *
    generalize irow s.boxes[i].gone = r2 at *
    generalize b.mails.map encMail = r3 at *
    generalize irow b.gone = r4 at *
    simp (maxSteps := 1000000) [exB, spec_l07Stamped.m, spec_l07Stamped.b, List.range_succ, bs_get, setAt, hi, h1, h2, e5, er, eg, a1, List.take_of_length_le]
  | false =>
    rw [c] at h2
    rw [if_neg (by decide)]
    simp only [encStore, encStoreO, boxes, ints, es, ew, et, egn] at h1 h2 ⊢
    clear es c
    simp only [encBox, mails, ints] at h2 a1 ⊢
    generalize s.boxes.map encBox = rb at *
    generalize irow s.gone = rs at *
    generalize s.boxes[i].mails.map encMail = r1 at *
    generalize irow s.boxes[i].gone = r2 at *
    generalize b.mails.map encMail = r3 at *
    generalize irow b.gone = r4 at *
    simp (maxSteps := 1000000) [exB, spec_l07Stamped.m, spec_l07Stamped.b, List.range_succ, bs_get, setAt, hi, h1, h2, e5, er, eg, a1, List.take_of_length_le]
end Mx

namespace Mx
open Go
variable {M : Nat → Option Body}
def at_ (s : Store) (g : Int) (f : Nat → Box → Store × Bool) : Store × Bool := match boxO s.boxes g with
  | none => (s, false)
  | some i => match s.boxes[i]? with
    | none => (s, false)
    | some b => f i b
theorem at_none {s : Store} {g : Int} {f : Nat → Box → Store × Bool} (h : boxO s.boxes g = none) : at_ s g f = (s, false) := by simp only [at_, h]
theorem at_some {s : Store} {g : Int} {f : Nat → Box → Store × Bool} {i : Nat} (h : boxO s.boxes g = some i) (hi : i < s.boxes.length) : at_ s g f = f i s.boxes[i] := by simp only [at_, h, List.getElem?_eq_getElem hi]
def putMail (s : Store) (g m f : Int) (x : List UInt8) : Store × Bool := if storeOk s = true ∧ knows s m = false then at_ s g fun i b => if (addMail b m f x (s.time + 1) s.who).2 = true then stamped s i (addMail b m f x (s.time + 1) s.who).1 else (s, false) else (s, false)
def markMail (s : Store) (g m f : Int) : Store × Bool := if storeOk s = true then at_ s g fun i b => if (flagMail b m f (s.time + 1) s.who).2 = true then stamped s i (flagMail b m f (s.time + 1) s.who).1 else (s, false) else (s, false)
def dropMail (s : Store) (g m : Int) : Store × Bool := if storeOk s = true then at_ s g fun i b => if (takeOut b m).2 = true then ({ s with boxes := s.boxes.set i (takeOut b m).1 }, true) else (s, false) else (s, false)
theorem good_gids {s : Store} (h : storeOk s = true) : (s.boxes.flatMap gidsOf).length ≤ 50 := by
  have G := (storeOk_good h).boxes
  have key : ∀ l : List Box, (∀ x ∈ l, x.mails.length ≤ 10) → (l.flatMap gidsOf).length ≤ 10 * l.length := by
    intro l
    induction l with
    | nil => intro _; simp
    | cons x l ih =>
      intro h
      have h1 := ih fun y hy => h y (List.mem_cons_of_mem _ hy)
      have h2 := h x (List.mem_cons_self ..)
      simp only [List.flatMap_cons, List.length_append, gidsOf, List.length_map, List.length_cons] at h1 ⊢
      omega
  have := key s.boxes fun x hx => (G.good x hx).len
  have := G.len
  omega
theorem addMail_small {b : Box} (hb : Good b) (g f : Int) (x : List UInt8) (t w : Int) : (addMail b g f x t w).1.mails.length ≤ 11 := by
  unfold addMail
  split
  · rename_i c
    exact Nat.le_trans (boxOk_iff.1 c.2.2.2.2).len (by omega)
  · have := hb.len; simp only; omega
theorem flagMail_small {b : Box} (hb : Good b) (g n t w : Int) : (flagMail b g n t w).1.mails.length ≤ 11 := by
  have := hb.len
  unfold flagMail
  split
  · simp only; omega
  · split
    · simp only; omega
    · split
      · simp only [List.length_set]; omega
      · simp only; omega
set_option maxHeartbeats 4000000 in
theorem spec_PutMail.says (h : spec_PutMail.k M) (s : Store) (hs : StoreT s) (g m f : Int) (x : List UInt8) :
    run M 279 [.a (encStore s), .c (I g), .c (I m), .c (I f), .c (S x)] [] = some (.tup [.a (encStoreO (putMail s g m f x).1), .c (.bool (putMail s g m f x).2)], []) := by
  obtain ⟨h0, ka, ko, kb, kc, kk, kn, kst⟩ := h
  have h1 := spec_BoxAt.says kb s g hs.in_.b
  have h2 := spec_StoreOk.says ko s hs.in_
  have h3 := spec_Knows.says kk s m hs.in_
  have h4 := spec_l07Copy.says kc s hs.in_
  have h5 := spec_NextStamp.says kn s hs.time
  have er : (s.boxes.map encBox).length = s.boxes.length := by simp
  have eg := irow_length s.gone
  refine run_code (b := spec_PutMail.m) h0 ⟨0, ?_⟩
  unfold putMail
  cases c1 : storeOk s with
  | false =>
    rw [c1] at h2
    simp only [Bool.false_eq_true, false_and, if_false]
    simp only [encStore, encStoreO, boxes, ints] at *
    generalize s.boxes.map encBox = rb at *
    generalize irow s.gone = rs at *
    simp (maxSteps := 1000000) [exB, spec_PutMail.m, spec_PutMail.b, List.range_succ, bs_get, setAt, h1, h2, h4, er, eg, List.take_of_length_le]
  | true =>
    rw [c1] at h2
    cases c2 : knows s m with
    | true =>
      rw [c2] at h3
      simp only [Bool.true_eq_false, and_false, if_false]
      simp only [encStore, encStoreO, boxes, ints] at *
      generalize s.boxes.map encBox = rb at *
      generalize irow s.gone = rs at *
      simp (maxSteps := 1000000) [exB, spec_PutMail.m, spec_PutMail.b, List.range_succ, bs_get, setAt, h1, h2, h3, h4, er, eg, List.take_of_length_le]
    | false =>
      rw [c2] at h3
      rw [if_pos ⟨rfl, rfl⟩]
      cases c3 : boxO s.boxes g with
      | none =>
        rw [c3] at h1
        rw [at_none c3]
        simp only [encStore, encStoreO, boxes, ints, intO] at *
        generalize s.boxes.map encBox = rb at *
        generalize irow s.gone = rs at *
        simp (maxSteps := 1000000) [exB, spec_PutMail.m, spec_PutMail.b, List.range_succ, bs_get, setAt, h1, h2, h3, h4, er, eg, List.take_of_length_le]
      | some i =>
        rw [c3] at h1
        obtain ⟨hi, _⟩ := boxO_some c3
        rw [at_some c3 hi]
        have hG := (storeOk_good c1).boxes.good _ (List.getElem_mem hi)
        have h6 := spec_AddMail.says ka s.boxes[i] hG.inB m f x (s.time + 1) s.who
        have hin := addMail_in hG.inB m f x (s.time + 1) s.who
        have h7 := spec_l07Stamped.says kst s hs i hi (addMail s.boxes[i] m f x (s.time + 1) s.who).1 hin (by have := good_gids c1; have := addMail_small hG m f x (s.time + 1) s.who; omega)
        have a1 : ∀ hh, (s.boxes.map encBox)[i]'hh = encBox s.boxes[i] := by intro hh; simp
        have ni : ¬ (i : Int) < 0 := by omega
        generalize addMail s.boxes[i] m f x (s.time + 1) s.who = A at *
        obtain ⟨b', ok⟩ := A
        generalize stamped s i b' = B at *
        obtain ⟨s', ok'⟩ := B
        have er2 : (s'.boxes.map encBox).length = s'.boxes.length := by simp
        have eg2 := irow_length s'.gone
        simp only [encStore, encStoreO, boxes, ints, intO] at h1 h2 h3 h4 h5 h7 ⊢
        simp only [encBox, encBoxO, mails, ints] at h6 h7 a1
        generalize hrb : s.boxes.map encBox = rb at *
        generalize hrs : irow s.gone = rs at *
        generalize s.boxes[i].mails.map encMail = r1 at *
        generalize irow s.boxes[i].gone = r2 at *
        generalize b'.mails.map encMail = r3 at *
        generalize irow b'.gone = r4 at *
        cases ok
        · simp only [Bool.false_eq_true, if_false]
          simp (maxSteps := 1000000) [exB, spec_PutMail.m, spec_PutMail.b, List.range_succ, bs_get, setAt, hi, ni, h1, h2, h3, h4, h5, h6, er, eg, a1, List.take_of_length_le]
          exact ⟨hrb.symm, hrs.symm⟩
        · simp only [if_true]
          generalize s'.boxes.map encBox = rb' at *
          generalize irow s'.gone = rs' at *
          simp (maxSteps := 1000000) [exB, spec_PutMail.m, spec_PutMail.b, List.range_succ, bs_get, setAt, hi, ni, h1, h2, h3, h4, h5, h6, h7, er, eg, er2, eg2, a1, List.take_of_length_le]
end Mx

namespace Mx
open Go
variable {M : Nat → Option Body}
set_option maxHeartbeats 4000000 in
theorem spec_MarkMail.says (h : spec_MarkMail.k M) (s : Store) (hs : StoreT s) (g m f : Int) :
    run M 280 [.a (encStore s), .c (I g), .c (I m), .c (I f)] [] = some (.tup [.a (encStoreO (markMail s g m f).1), .c (.bool (markMail s g m f).2)], []) := by
  obtain ⟨h0, ka, ko, kb, kc, kn, kst⟩ := h
  have h1 := spec_BoxAt.says kb s g hs.in_.b
  have h2 := spec_StoreOk.says ko s hs.in_
  have h4 := spec_l07Copy.says kc s hs.in_
  have h5 := spec_NextStamp.says kn s hs.time
  have er : (s.boxes.map encBox).length = s.boxes.length := by simp
  have eg := irow_length s.gone
  refine run_code (b := spec_MarkMail.m) h0 ⟨0, ?_⟩
  unfold markMail
  cases c1 : storeOk s with
  | false =>
    rw [c1] at h2
    simp only [Bool.false_eq_true, if_false]
    simp only [encStore, encStoreO, boxes, ints] at *
    generalize s.boxes.map encBox = rb at *
    generalize irow s.gone = rs at *
    simp (maxSteps := 1000000) [exB, spec_MarkMail.m, spec_MarkMail.b, List.range_succ, bs_get, setAt, h1, h2, h4, er, eg, List.take_of_length_le]
  | true =>
    rw [c1] at h2
    rw [if_pos rfl]
    cases c3 : boxO s.boxes g with
    | none =>
      rw [c3] at h1
      rw [at_none c3]
      simp only [encStore, encStoreO, boxes, ints, intO] at *
      generalize s.boxes.map encBox = rb at *
      generalize irow s.gone = rs at *
      simp (maxSteps := 1000000) [exB, spec_MarkMail.m, spec_MarkMail.b, List.range_succ, bs_get, setAt, h1, h2, h4, er, eg, List.take_of_length_le]
    | some i =>
      rw [c3] at h1
      obtain ⟨hi, _⟩ := boxO_some c3
      rw [at_some c3 hi]
      have hG := (storeOk_good c1).boxes.good _ (List.getElem_mem hi)
      have h6 := spec_FlagMail.says ka s.boxes[i] hG.inB m f (s.time + 1) s.who
      have hin := flagMail_in hG.inB m f (s.time + 1) s.who
      have h7 := spec_l07Stamped.says kst s hs i hi (flagMail s.boxes[i] m f (s.time + 1) s.who).1 hin (by have := good_gids c1; have := flagMail_small hG m f (s.time + 1) s.who; omega)
      have a1 : ∀ hh, (s.boxes.map encBox)[i]'hh = encBox s.boxes[i] := by intro hh; simp
      have ni : ¬ (i : Int) < 0 := by omega
      generalize flagMail s.boxes[i] m f (s.time + 1) s.who = A at *
      obtain ⟨b', ok⟩ := A
      generalize stamped s i b' = B at *
      obtain ⟨s', ok'⟩ := B
      have er2 : (s'.boxes.map encBox).length = s'.boxes.length := by simp
      have eg2 := irow_length s'.gone
      simp only [encStore, encStoreO, boxes, ints, intO] at h1 h2 h4 h5 h7 ⊢
      simp only [encBox, encBoxO, mails, ints] at h6 h7 a1
      generalize hrb : s.boxes.map encBox = rb at *
      generalize hrs : irow s.gone = rs at *
      generalize s.boxes[i].mails.map encMail = r1 at *
      generalize irow s.boxes[i].gone = r2 at *
      generalize b'.mails.map encMail = r3 at *
      generalize irow b'.gone = r4 at *
      cases ok
      · simp only [Bool.false_eq_true, if_false]
        simp (maxSteps := 1000000) [exB, spec_MarkMail.m, spec_MarkMail.b, List.range_succ, bs_get, setAt, hi, ni, h1, h2, h4, h5, h6, er, eg, a1, List.take_of_length_le]
        exact ⟨hrb.symm, hrs.symm⟩
      · simp only [if_true]
        generalize s'.boxes.map encBox = rb' at *
        generalize irow s'.gone = rs' at *
        simp (maxSteps := 1000000) [exB, spec_MarkMail.m, spec_MarkMail.b, List.range_succ, bs_get, setAt, hi, ni, h1, h2, h4, h5, h6, h7, er, eg, er2, eg2, a1, List.take_of_length_le]
set_option maxHeartbeats 4000000 in
theorem spec_DropMail.says (h : spec_DropMail.k M) (s : Store) (hs : StoreT s) (g m : Int) :
    run M 281 [.a (encStore s), .c (I g), .c (I m)] [] = some (.tup [.a (encStoreO (dropMail s g m).1), .c (.bool (dropMail s g m).2)], []) := by
  obtain ⟨h0, kt, ko, kb, kc⟩ := h
  have h1 := spec_BoxAt.says kb s g hs.in_.b
  have h2 := spec_StoreOk.says ko s hs.in_
  have h4 := spec_l07Copy.says kc s hs.in_
  have er : (s.boxes.map encBox).length = s.boxes.length := by simp
  have eg := irow_length s.gone
  refine run_code (b := spec_DropMail.m) h0 ⟨0, ?_⟩
  unfold dropMail
  cases c1 : storeOk s with
  | false =>
    rw [c1] at h2
    simp only [Bool.false_eq_true, if_false]
    simp only [encStore, encStoreO, boxes, ints] at *
    generalize s.boxes.map encBox = rb at *
    generalize irow s.gone = rs at *
    simp (maxSteps := 1000000) [exB, spec_DropMail.m, spec_DropMail.b, List.range_succ, bs_get, setAt, h1, h2, h4, er, eg, List.take_of_length_le]
  | true =>
    rw [c1] at h2
    rw [if_pos rfl]
    cases c3 : boxO s.boxes g with
    | none =>
      rw [c3] at h1
      rw [at_none c3]
      simp only [encStore, encStoreO, boxes, ints, intO] at *
      generalize s.boxes.map encBox = rb at *
      generalize irow s.gone = rs at *
      simp (maxSteps := 1000000) [exB, spec_DropMail.m, spec_DropMail.b, List.range_succ, bs_get, setAt, h1, h2, h4, er, eg, List.take_of_length_le]
    | some i =>
      rw [c3] at h1
      obtain ⟨hi, _⟩ := boxO_some c3
      rw [at_some c3 hi]
      have hG := (storeOk_good c1).boxes.good _ (List.getElem_mem hi)
      have h6 := spec_TakeOut.says kt s.boxes[i] hG.inB m
      have a1 : ∀ hh, (s.boxes.map encBox)[i]'hh = encBox s.boxes[i] := by intro hh; simp
      have ni : ¬ (i : Int) < 0 := by omega
      generalize takeOut s.boxes[i] m = A at *
      obtain ⟨b', ok⟩ := A
      have es : (s.boxes.set i b').map encBox = (s.boxes.map encBox).set i (encBox b') := List.map_set
      simp only [encStore, encStoreO, boxes, ints, intO] at h1 h2 h4 ⊢
      simp only [encBox, encBoxO, mails, ints] at h6 a1 es
      cases ok
      · simp only [Bool.false_eq_true, if_false]
        generalize s.boxes.map encBox = rb at *
        generalize irow s.gone = rs at *
        generalize s.boxes[i].mails.map encMail = r1 at *
        generalize irow s.boxes[i].gone = r2 at *
        generalize b'.mails.map encMail = r3 at *
        generalize irow b'.gone = r4 at *
        simp (maxSteps := 1000000) [exB, spec_DropMail.m, spec_DropMail.b, List.range_succ, bs_get, setAt, hi, ni, h1, h2, h4, h6, er, eg, a1, List.take_of_length_le]
      · simp only [if_true, es]
        clear es
        generalize s.boxes.map encBox = rb at *
        generalize irow s.gone = rs at *
        generalize s.boxes[i].mails.map encMail = r1 at *
        generalize irow s.boxes[i].gone = r2 at *
        generalize b'.mails.map encMail = r3 at *
        generalize irow b'.gone = r4 at *
        simp (maxSteps := 1000000) [exB, spec_DropMail.m, spec_DropMail.b, List.range_succ, bs_get, setAt, hi, ni, h1, h2, h4, h6, er, eg, a1, List.take_of_length_le]
end Mx

namespace Mx
open Go
variable {M : Nat → Option Body}
def renamedB (s : Store) (nm : List UInt8) (b : Box) : Box := { b with name := nm, time := s.time + 1, who := s.who }
def renameBox (s : Store) (g : Int) (nm : List UInt8) : Store × Bool := if storeOk s = true ∧ (named s.boxes nm).isSome = false then at_ s g fun i b => stamped s i (renamedB s nm b) else (s, false)
set_option maxHeartbeats 4000000 in
theorem spec_RenameBox.says (h : spec_RenameBox.k M) (s : Store) (hs : StoreT s) (g : Int) (nm : List UInt8) (hn : nm.length ≤ 1048576) :
    run M 282 [.a (encStore s), .c (I g), .c (S nm)] [] = some (.tup [.a (encStoreO (renameBox s g nm).1), .c (.bool (renameBox s g nm).2)], []) := by
  obtain ⟨h0, ko, kb, kc, kn, kst⟩ := h
  have ht := hs.time
  have h1 := spec_BoxAt.says kb s g hs.in_.b
  have h2 := spec_StoreOk.says ko s hs.in_
  have h3 := spec_BoxNamed.says kn s nm hs.in_.b
  have h4 := spec_l07Copy.says kc s hs.in_
  have h5 := spec_NextStamp.says kst s hs.time
  have er : (s.boxes.map encBox).length = s.boxes.length := by simp
  have eg := irow_length s.gone
  have e5 : IntKind.i64.wrap (s.time + 1) = s.time + 1 := wrap_i64 (by omega) (by omega)
  refine run_code (b := spec_RenameBox.m) h0 ⟨0, ?_⟩
  unfold renameBox
  cases c1 : storeOk s with
  | false =>
    rw [c1] at h2
    simp only [Bool.false_eq_true, false_and, if_false]
    simp only [encStore, encStoreO, boxes, ints] at *
    generalize s.boxes.map encBox = rb at *
    generalize irow s.gone = rs at *
    simp (maxSteps := 1000000) [exB, spec_RenameBox.m, spec_RenameBox.b, List.range_succ, bs_get, setAt, h1, h2, h4, er, eg, List.take_of_length_le]
  | true =>
    rw [c1] at h2
    cases c3 : boxO s.boxes g with
    | none =>
      rw [c3] at h1
      have e : (if true = true ∧ (named s.boxes nm).isSome = false then at_ s g fun i b => stamped s i (renamedB s nm b) else (s, false)) = (s, false) := by
        rw [at_none c3]; split <;> rfl
      rw [e]
      simp only [encStore, encStoreO, boxes, ints, intO] at *
      generalize s.boxes.map encBox = rb at *
      generalize irow s.gone = rs at *
      simp (maxSteps := 1000000) [exB, spec_RenameBox.m, spec_RenameBox.b, List.range_succ, bs_get, setAt, h1, h2, h4, er, eg, List.take_of_length_le]
    | some i =>
      rw [c3] at h1
      obtain ⟨hi, _⟩ := boxO_some c3
      have ni : ¬ (i : Int) < 0 := by omega
      have c0 := intO_nonneg (named s.boxes nm)
      cases c2 : (named s.boxes nm).isSome with
      | true =>
        rw [c2] at c0
        simp only [decide_eq_true_eq] at c0
        simp only [Bool.true_eq_false, and_false, if_false]
        generalize intO (named s.boxes nm) = z at *
        simp only [encStore, encStoreO, boxes, ints, intO] at *
        generalize s.boxes.map encBox = rb at *
        generalize irow s.gone = rs at *
        simp (maxSteps := 1000000) [exB, spec_RenameBox.m, spec_RenameBox.b, List.range_succ, bs_get, setAt, ni, c0, h1, h2, h3, h4, er, eg, List.take_of_length_le]
      | false =>
        rw [c2] at c0
        simp only [decide_eq_false_iff_not] at c0
        rw [if_pos ⟨rfl, rfl⟩, at_some c3 hi]
        have hG := (storeOk_good c1).boxes.good _ (List.getElem_mem hi)
        have hin : BoxIn (renamedB s nm s.boxes[i]) := ⟨hG.inB.m, hG.inB.g, hn, hG.inB.f⟩
        have h6 := spec_StoreOk.says ko _ (stampedTo_in hs.in_ hi hin (by have := good_gids c1; have := hG.len; simp only [renamedB]; omega))
        have a1 : ∀ hh, (s.boxes.map encBox)[i]'hh = encBox s.boxes[i] := by intro hh; simp
        have es : (stampedTo s i (renamedB s nm s.boxes[i])).boxes.map encBox = (s.boxes.map encBox).set i (encBox (renamedB s nm s.boxes[i])) := by simp only [stampedTo, List.map_set]
        have ew : (stampedTo s i (renamedB s nm s.boxes[i])).who = s.who := rfl
        have et : (stampedTo s i (renamedB s nm s.boxes[i])).time = s.time + 1 := rfl
        have egn : (stampedTo s i (renamedB s nm s.boxes[i])).gone = s.gone := rfl
        unfold stamped
        generalize intO (named s.boxes nm) = z at *
        cases c : storeOk (stampedTo s i (renamedB s nm s.boxes[i])) with
        | true =>
          rw [c] at h6
          rw [if_pos rfl]
          simp only [encStore, encStoreO, boxes, ints, intO, es, ew, et, egn] at h1 h2 h3 h4 h5 h6 ⊢
          clear es c
          simp only [encBox, mails, ints, renamedB] at h6 a1 ⊢
          generalize s.boxes.map encBox = rb at *
          generalize irow s.gone = rs at *
          generalize s.boxes[i].mails.map encMail = r1 at *
          generalize irow s.boxes[i].gone = r2 at *
          simp (maxSteps := 1000000) [exB, spec_RenameBox.m, spec_RenameBox.b, List.range_succ, bs_get, setAt, hi, ni, c0, h1, h2, h3, h4, h5, h6, e5, er, eg, a1, List.take_of_length_le]
        | false =>
          rw [c] at h6
          rw [if_neg (by decide)]
          simp only [encStore, encStoreO, boxes, ints, intO, es, ew, et, egn] at h1 h2 h3 h4 h5 h6 ⊢
          clear es c
          simp only [encBox, mails, ints, renamedB] at h6 a1 ⊢
          generalize s.boxes.map encBox = rb at *
          generalize irow s.gone = rs at *
          generalize s.boxes[i].mails.map encMail = r1 at *
          generalize irow s.boxes[i].gone = r2 at *
          simp (maxSteps := 1000000) [exB, spec_RenameBox.m, spec_RenameBox.b, List.range_succ, bs_get, setAt, hi, ni, c0, h1, h2, h3, h4, h5, h6, e5, er, eg, a1, List.take_of_length_le]
def dropBox (s : Store) (g : Int) : Store × Bool := if storeOk s = true ∧ s.gone.length < 20 then at_ s g fun i _ => ({ s with boxes := s.boxes.take i ++ s.boxes.drop (i + 1), gone := gput s.gone g }, true) else (s, false)
set_option maxHeartbeats 4000000 in
theorem spec_DropBox.says (h : spec_DropBox.k M) (s : Store) (hs : StoreT s) (g : Int) :
    run M 283 [.a (encStore s), .c (I g)] [] = some (.tup [.a (encStoreO (dropBox s g).1), .c (.bool (dropBox s g).2)], []) := by
  obtain ⟨h0, kp, ko, kb, kc⟩ := h
  have h1 := spec_BoxAt.says kb s g hs.in_.b
  have h2 := spec_StoreOk.says ko s hs.in_
  have h4 := spec_l07Copy.says kc s hs.in_
  have h5 := spec_l06Put.says kp s.gone g (by have := hs.in_.g; omega)
  have er : (s.boxes.map encBox).length = s.boxes.length := by simp
  have eg := irow_length s.gone
  have hbl := hs.in_.b
  refine run_code (b := spec_DropBox.m) h0 ⟨0, ?_⟩
  unfold dropBox
  cases c1 : storeOk s with
  | false =>
    rw [c1] at h2
    simp only [Bool.false_eq_true, false_and, if_false]
    simp only [encStore, encStoreO, boxes, ints] at *
    generalize s.boxes.map encBox = rb at *
    generalize irow s.gone = rs at *
    simp (maxSteps := 1000000) [exB, spec_DropBox.m, spec_DropBox.b, List.range_succ, bs_get, setAt, h1, h2, h4, er, eg, List.take_of_length_le]
  | true =>
    rw [c1] at h2
    cases c3 : boxO s.boxes g with
    | none =>
      rw [c3] at h1
      have e : (if true = true ∧ s.gone.length < 20 then at_ s g fun i _ => ({ s with boxes := s.boxes.take i ++ s.boxes.drop (i + 1), gone := gput s.gone g }, true) else (s, false)) = (s, false) := by
        rw [at_none c3]; split <;> rfl
      rw [e]
      simp only [encStore, encStoreO, boxes, ints, intO] at *
      generalize s.boxes.map encBox = rb at *
      generalize irow s.gone = rs at *
      simp (maxSteps := 1000000) [exB, spec_DropBox.m, spec_DropBox.b, List.range_succ, bs_get, setAt, h1, h2, h4, er, eg, List.take_of_length_le]
    | some i =>
      rw [c3] at h1
      obtain ⟨hi, _⟩ := boxO_some c3
      have ni : ¬ (i : Int) < 0 := by omega
      by_cases c2 : s.gone.length < 20
      · have c2' : ¬ (20 : Int) ≤ (s.gone.length : Int) := by omega
        have c2'' : ¬ 20 ≤ s.gone.length := by omega
        rw [if_pos ⟨rfl, c2⟩, at_some c3 hi]
        have e5 := wrap1 (i := i) (by omega)
        have e6 : (s.boxes.take i ++ s.boxes.drop (i + 1)).map encBox = (s.boxes.map encBox).take i ++ (s.boxes.map encBox).drop (i + 1) := by simp [List.map_take, List.map_drop]
        have e7 := irow_length (gput s.gone g)
        have e8 : i ≤ s.boxes.length := by omega
        have e9 : i + (s.boxes.length - (i + 1)) ≤ 4294967296 := by omega
        have e10 : i ≤ 4294967296 := by omega
        have e11 : i + 1 ≤ s.boxes.length := by omega
        have e12 : Min.min i s.boxes.length = i := by omega
        simp only [encStore, encStoreO, boxes, ints, intO, e6] at h1 h2 h4 h5 ⊢
        generalize irow (gput s.gone g) = rp at *
        generalize s.boxes.map encBox = rb at *
        generalize irow s.gone = rs at *
        have f1 : (0 : Int) ≤ (i : Int) + 1 := by omega
        have f2 : ((i : Int) + 1).toNat = i + 1 := by omega
        by_cases c9 : i + 1 = s.boxes.length
        · have d1 : rb.drop (i + 1) = [] := List.drop_eq_nil_of_le (by omega)
          have d2 : rb.drop s.boxes.length = [] := List.drop_eq_nil_of_le (by omega)
          have d3 : s.boxes.length - (i + 1) = 0 := by omega
          have d4 : ¬ s.boxes.length = 0 := by omega
          rw [← c9] at hi er
          simp (maxSteps := 1000000) [exB, spec_DropBox.m, spec_DropBox.b, List.range_succ, bs_get, setAt, hi, ni, c2, c2', c2'', h1, h2, h4, h5, e5, e7, e10, e12, d1, f1, f2, er, eg, List.take_of_length_le]
        · simp (maxSteps := 1000000) [exB, spec_DropBox.m, spec_DropBox.b, List.range_succ, bs_get, setAt, hi, ni, c2, c2', c2'', c9, f1, f2, h1, h2, h4, h5, e5, e7, e8, e9, e10, e11, e12, er, eg, List.take_of_length_le]
      · have c2' : (20 : Int) ≤ (s.gone.length : Int) := by omega
        have c2'' : 20 ≤ s.gone.length := by omega
        simp only [c2, and_false, if_false]
        simp only [encStore, encStoreO, boxes, ints, intO] at *
        generalize s.boxes.map encBox = rb at *
        generalize irow s.gone = rs at *
        simp (maxSteps := 1000000) [exB, spec_DropBox.m, spec_DropBox.b, List.range_succ, bs_get, setAt, ni, c2', c2'', h1, h2, h4, er, eg, List.take_of_length_le]
end Mx

namespace Mx
open Go
variable {M : Nat → Option Body}
structure MbC where
  s : Store
  g : Int
  N : List T
  u3 : Nat
  u6 : Nat
  u8 : Nat
  u9 : Nat
  w2 : Nat
  w3 : Nat
def mb8 (c : MbC) (v n : Nat) : List T := [I c.s.who, I c.s.time, .row 30 v 0 n, .row 12903 c.w3 0 c.s.gone.length]
def mbS (c : MbC) (i : Nat) (out : List Box) (y : Nat × Nat) : St := { t := [(1, .c (I c.g)), (3, .c (.ptr 3 c.u3 0 0)), (6, .c (.ptr 6 c.u6 0 0)), (8, .c (.ptr 8 c.u8 0 0)), (9, .c (.ptr 9 c.u9 0 0)), (10, .c (I i))], o := [(3, ⟨c.u3, 4, true, true, [encStore c.s]⟩), (6, ⟨c.u6, 4, true, true, [szero]⟩), (8, ⟨c.u8, 4, true, true, [mb8 c y.1 out.length]⟩), (9, ⟨c.u9, 7, true, true, [c.N]⟩), (30, ⟨y.1, 7, true, false, out.map encBox⟩), (12902, ⟨c.w2, 7, true, false, c.s.boxes.map encBox⟩), (12903, ⟨c.w3, 1, true, false, irow c.s.gone⟩)], n := y.2 }
def mbE (c : MbC) (out : List Box) (y : Nat × Nat) : St := { t := [(1, .c (I c.g)), (3, .c (.ptr 3 c.u3 0 0)), (6, .c (.ptr 6 c.u6 0 0)), (8, .c (.ptr 8 c.u8 0 0)), (9, .c (.ptr 9 c.u9 0 0)), (10, .c (I c.s.boxes.length)), (41, .c (.bool false))], o := [(3, ⟨c.u3, 4, true, true, [encStore c.s]⟩), (6, ⟨c.u6, 4, true, true, [szero]⟩), (8, ⟨c.u8, 4, true, true, [mb8 c y.1 out.length]⟩), (9, ⟨c.u9, 7, true, true, [c.N]⟩), (30, ⟨y.1, 7, true, false, out.map encBox⟩), (12902, ⟨c.w2, 7, true, false, c.s.boxes.map encBox⟩), (12903, ⟨c.w3, 1, true, false, irow c.s.gone⟩)], n := y.2 }
def mcS (c : MbC) (i : Nat) (out : List Box) (y : Nat × Nat) : St := { t := [(1, .c (I c.g)), (3, .c (.ptr 3 c.u3 0 0)), (6, .c (.ptr 6 c.u6 0 0)), (8, .c (.ptr 8 c.u8 0 0)), (11, .c (I i))], o := [(3, ⟨c.u3, 4, true, true, [encStore c.s]⟩), (6, ⟨c.u6, 4, true, true, [szero]⟩), (8, ⟨c.u8, 4, true, true, [mb8 c y.1 out.length]⟩), (30, ⟨y.1, 7, true, false, out.map encBox⟩), (12902, ⟨c.w2, 7, true, false, c.s.boxes.map encBox⟩), (12903, ⟨c.w3, 1, true, false, irow c.s.gone⟩)], n := y.2 }
def mcE (c : MbC) (out : List Box) (y : Nat × Nat) : St := { t := [(1, .c (I c.g)), (3, .c (.ptr 3 c.u3 0 0)), (6, .c (.ptr 6 c.u6 0 0)), (8, .c (.ptr 8 c.u8 0 0)), (11, .c (I c.s.boxes.length)), (73, .c (.bool false))], o := [(3, ⟨c.u3, 4, true, true, [encStore c.s]⟩), (6, ⟨c.u6, 4, true, true, [szero]⟩), (8, ⟨c.u8, 4, true, true, [mb8 c y.1 out.length]⟩), (30, ⟨y.1, 7, true, false, out.map encBox⟩), (12902, ⟨c.w2, 7, true, false, c.s.boxes.map encBox⟩), (12903, ⟨c.w3, 1, true, false, irow c.s.gone⟩)], n := y.2 }
theorem bfilter_fold (p : Box → Bool) : ∀ (l s : List Box), l.foldl (fun s a => if p a = true then s ++ [a] else s) s = s ++ l.filter p
  | [], s => by simp
  | a :: l, s => by
    rw [List.foldl_cons, bfilter_fold p l, List.filter_cons]
    by_cases h : p a = true <;> simp [h]
set_option maxHeartbeats 2000000 in
theorem mb_loop (kc : spec_l06Copy.k M) (k : Nat) (c : MbC) (hs : StoreIn c.s) (hk : c.s.boxes.length < k) (y : Nat × Nat) :
    ∃ z, loopN (exC (run M) k spec_MakeBox.l0) k (mbS c 0 [] y) = some (.exit 0, mbE c (c.s.boxes.filter fun b => decide (b.gid < c.g)) z) := by
  have hbl := hs.b
  have er : (c.s.boxes.map encBox).length = c.s.boxes.length := by simp
  obtain ⟨g, hr⟩ := fold_loop (f := exC (run M) k spec_MakeBox.l0) c.s.boxes (fun s b => if decide (b.gid < c.g) = true then s ++ [b] else s) (fun i s => s.length ≤ i) (mbS c) 0 (mbE c)
    (fun i h s hs => by split <;> (try simp) <;> omega)
    (fun i hi s y hi2 => by
      obtain ⟨v, n⟩ := y
      have hB := hs.i _ (List.getElem_mem hi)
      have h1 := spec_l06Copy.says kc c.s.boxes[i] hB
      have e5 := wrap1 (i := i) (by omega)
      have e6 : s.length + 1 ≤ 4294967296 := by omega
      have e9 : (s.map encBox).length = s.length := by simp
      have a1 : ∀ hh, (c.s.boxes.map encBox)[i]'hh = encBox c.s.boxes[i] := by intro hh; simp
      simp only [Prod.exists]
      by_cases q : c.s.boxes[i].gid < c.g
      · simp only [q, decide_true, if_true, mbS, mb8, List.map_append, List.map_cons, List.map_nil, List.length_append, List.length_singleton]
        simp only [encStore, encBox, encBoxO, boxes, mails, ints] at a1 h1 ⊢
        generalize c.s.boxes.map encBox = rb at *
        generalize irow c.s.gone = rs at *
        generalize s.map encBox = ro at *
        generalize c.s.boxes[i].mails.map encMail = r1 at *
        generalize irow c.s.boxes[i].gone = r2 at *
        simp (maxSteps := 1000000) [spec_MakeBox.l0, List.range_succ, bs_get, setAt, hi, q, h1, e5, e6, e9, er, a1, List.take_of_length_le]
      · simp only [q, decide_false, Bool.false_eq_true, if_false, mbS, mb8]
        simp only [encStore, encBox, encBoxO, boxes, mails, ints] at a1 h1 ⊢
        generalize c.s.boxes.map encBox = rb at *
        generalize irow c.s.gone = rs at *
        generalize s.map encBox = ro at *
        generalize c.s.boxes[i].mails.map encMail = r1 at *
        generalize irow c.s.boxes[i].gone = r2 at *
        simp (maxSteps := 1000000) [spec_MakeBox.l0, List.range_succ, bs_get, setAt, hi, q, e5, er, a1])
    (fun s y hs => by
      obtain ⟨v, n⟩ := y
      simp only [Prod.exists, mbS, mbE, mb8, encStore, boxes, ints]
      generalize c.s.boxes.map encBox = rb at *
      generalize irow c.s.gone = rs at *
      generalize s.map encBox = ro at *
      simp (maxSteps := 1000000) [spec_MakeBox.l0, List.range_succ, bs_get, setAt, er]) [] (by simp)
  rw [bfilter_fold, List.nil_append] at hr
  exact ⟨_, loopN_le (hr y) (by omega)⟩
set_option maxHeartbeats 2000000 in
theorem mc_loop (kc : spec_l06Copy.k M) (k : Nat) (c : MbC) (hs : StoreIn c.s) (hk : c.s.boxes.length < k) (o0 : List Box) (ho : o0.length ≤ 2097152) (y : Nat × Nat) :
    ∃ z, loopN (exC (run M) k spec_MakeBox.l1) k (mcS c 0 o0 y) = some (.exit 2, mcE c (o0 ++ c.s.boxes.filter fun b => decide (c.g < b.gid)) z) := by
  have hbl := hs.b
  have er : (c.s.boxes.map encBox).length = c.s.boxes.length := by simp
  obtain ⟨g, hr⟩ := fold_loop (f := exC (run M) k spec_MakeBox.l1) c.s.boxes (fun s b => if decide (c.g < b.gid) = true then s ++ [b] else s) (fun i s => s.length ≤ 2097152 + i) (mcS c) 2 (mcE c)
    (fun i h s hs => by split <;> (try simp) <;> omega)
    (fun i hi s y hi2 => by
      obtain ⟨v, n⟩ := y
      have hB := hs.i _ (List.getElem_mem hi)
      have h1 := spec_l06Copy.says kc c.s.boxes[i] hB
      have e5 := wrap1 (i := i) (by omega)
      have e6 : s.length + 1 ≤ 4294967296 := by omega
      have e9 : (s.map encBox).length = s.length := by simp
      have a1 : ∀ hh, (c.s.boxes.map encBox)[i]'hh = encBox c.s.boxes[i] := by intro hh; simp
      simp only [Prod.exists]
      by_cases q : c.g < c.s.boxes[i].gid
      · simp only [q, decide_true, if_true, mcS, mb8, List.map_append, List.map_cons, List.map_nil, List.length_append, List.length_singleton]
        simp only [encStore, encBox, encBoxO, boxes, mails, ints] at a1 h1 ⊢
        generalize c.s.boxes.map encBox = rb at *
        generalize irow c.s.gone = rs at *
        generalize s.map encBox = ro at *
        generalize c.s.boxes[i].mails.map encMail = r1 at *
        generalize irow c.s.boxes[i].gone = r2 at *
        simp (maxSteps := 1000000) [spec_MakeBox.l1, List.range_succ, bs_get, setAt, hi, q, h1, e5, e6, e9, er, a1, List.take_of_length_le]
      · simp only [q, decide_false, Bool.false_eq_true, if_false, mcS, mb8]
        simp only [encStore, encBox, encBoxO, boxes, mails, ints] at a1 h1 ⊢
        generalize c.s.boxes.map encBox = rb at *
        generalize irow c.s.gone = rs at *
        generalize s.map encBox = ro at *
        generalize c.s.boxes[i].mails.map encMail = r1 at *
        generalize irow c.s.boxes[i].gone = r2 at *
        simp (maxSteps := 1000000) [spec_MakeBox.l1, List.range_succ, bs_get, setAt, hi, q, e5, er, a1])
    (fun s y hs => by
      obtain ⟨v, n⟩ := y
      simp only [Prod.exists, mcS, mcE, mb8, encStore, boxes, ints]
      generalize c.s.boxes.map encBox = rb at *
      generalize irow c.s.gone = rs at *
      generalize s.map encBox = ro at *
      simp (maxSteps := 1000000) [spec_MakeBox.l1, List.range_succ, bs_get, setAt, er]) o0 (by omega)
  rw [bfilter_fold] at hr
  exact ⟨_, loopN_le (hr y) (by omega)⟩
end Mx

namespace Mx
open Go
variable {M : Nat → Option Body}
def newBox (s : Store) (g : Int) (nm : List UInt8) : Box := ⟨g, nm, s.time + 1, s.who, 1, [], []⟩
def makeTo (s : Store) (g : Int) (nm : List UInt8) : Store := { s with boxes := (s.boxes.filter fun b => decide (b.gid < g)) ++ [newBox s g nm] ++ s.boxes.filter fun b => decide (g < b.gid), time := s.time + 1 }
def makeBox (s : Store) (g : Int) (nm : List UInt8) : Store × Bool := if storeOk s = true ∧ knows s g = false ∧ (named s.boxes nm).isSome = false then (if storeOk (makeTo s g nm) = true then (makeTo s g nm, true) else (s, false)) else (s, false)
theorem makeTo_in {s : Store} (h : storeOk s = true) (g : Int) (nm : List UInt8) (hn : nm.length ≤ 1048576) : StoreIn (makeTo s g nm) := by
  have G := storeOk_good h
  have hl := G.boxes.len
  have f1 := List.length_filter_le (fun b : Box => decide (b.gid < g)) s.boxes
  have f2 := List.length_filter_le (fun b : Box => decide (g < b.gid)) s.boxes
  have hin : ∀ x ∈ (makeTo s g nm).boxes, x ∈ s.boxes ∨ x = newBox s g nm := fun x hx => by
    simp only [makeTo, List.mem_append, List.mem_filter, List.mem_singleton] at hx
    rcases hx with (q | q) | q
    · exact .inl q.1
    · exact .inr q
    · exact .inl q.1
  have hlen : (makeTo s g nm).boxes.length ≤ 11 := by simp only [makeTo, List.length_append, List.length_singleton]; omega
  have key : ∀ l : List Box, (∀ x ∈ l, x.mails.length ≤ 10) → (l.flatMap gidsOf).length ≤ 10 * l.length := by
    intro l
    induction l with
    | nil => intro _; simp
    | cons x l ih =>
      intro h
      have h1 := ih fun y hy => h y (List.mem_cons_of_mem _ hy)
      have h2 := h x (List.mem_cons_self ..)
      simp only [List.flatMap_cons, List.length_append, gidsOf, List.length_map, List.length_cons] at h1 ⊢
      omega
  refine ⟨by omega, by have := G.gone; simp only [makeTo]; omega, fun x hx => ?_, ?_⟩
  · rcases hin x hx with q | q
    · exact (G.boxes.good x q).inB
    · rw [q]; exact ⟨by simp [newBox], by simp [newBox], hn, by simp [newBox]⟩
  · have := key (makeTo s g nm).boxes fun x hx => by
      rcases hin x hx with q | q
      · exact (G.boxes.good x q).len
      · rw [q]; simp [newBox]
    omega
set_option maxHeartbeats 4000000 in
theorem spec_MakeBox.says (h : spec_MakeBox.k M) (s : Store) (hs : StoreT s) (g : Int) (nm : List UInt8) (hn : nm.length ≤ 1048576) :
    run M 278 [.a (encStore s), .c (I g), .c (S nm)] [] = some (.tup [.a (encStoreO (makeBox s g nm).1), .c (.bool (makeBox s g nm).2)], []) := by
  obtain ⟨h0, ko, kc6, kc, kn, kk, kst⟩ := h
  have ht := hs.time
  have hbl := hs.in_.b
  have h2 := spec_StoreOk.says ko s hs.in_
  have h3 := spec_BoxNamed.says kn s nm hs.in_.b
  have h7 := spec_Knows.says kk s g hs.in_
  have h4 := spec_l07Copy.says kc s hs.in_
  have h5 := spec_NextStamp.says kst s hs.time
  have er : (s.boxes.map encBox).length = s.boxes.length := by simp
  have eg := irow_length s.gone
  have e5 : IntKind.i64.wrap (s.time + 1) = s.time + 1 := wrap_i64 (by omega) (by omega)
  have c0 := intO_nonneg (named s.boxes nm)
  refine run_code (b := spec_MakeBox.m) h0 ⟨s.boxes.length + 1, ?_⟩
  unfold makeBox
  cases c1 : storeOk s with
  | false =>
    rw [c1] at h2
    simp only [Bool.false_eq_true, false_and, if_false]
    simp only [encStore, encStoreO, boxes, ints] at *
    generalize s.boxes.map encBox = rb at *
    generalize irow s.gone = rs at *
    simp (maxSteps := 1000000) [exB, spec_MakeBox.m, spec_MakeBox.b, List.range_succ, bs_get, setAt, h2, h4, er, eg, List.take_of_length_le]
  | true =>
    rw [c1] at h2
    cases c2 : knows s g with
    | true =>
      rw [c2] at h7
      simp only [Bool.true_eq_false, false_and, and_false, if_false]
      simp only [encStore, encStoreO, boxes, ints] at *
      generalize s.boxes.map encBox = rb at *
      generalize irow s.gone = rs at *
      simp (maxSteps := 1000000) [exB, spec_MakeBox.m, spec_MakeBox.b, List.range_succ, bs_get, setAt, h2, h4, h7, er, eg, List.take_of_length_le]
    | false =>
      rw [c2] at h7
      cases c3 : (named s.boxes nm).isSome with
      | true =>
        rw [c3] at c0
        simp only [decide_eq_true_eq] at c0
        simp only [Bool.true_eq_false, and_false, if_false]
        generalize intO (named s.boxes nm) = z at *
        simp only [encStore, encStoreO, boxes, ints] at *
        generalize s.boxes.map encBox = rb at *
        generalize irow s.gone = rs at *
        simp (maxSteps := 1000000) [exB, spec_MakeBox.m, spec_MakeBox.b, List.range_succ, bs_get, setAt, c0, h2, h3, h4, h7, er, eg, List.take_of_length_le]
      | false =>
        rw [c3] at c0
        simp only [decide_eq_false_iff_not] at c0
        rw [if_pos ⟨rfl, rfl, rfl⟩]
        have h6 := spec_StoreOk.says ko _ (makeTo_in c1 g nm hn)
        obtain ⟨⟨v1, n1⟩, r1⟩ := mb_loop kc6 (s.boxes.length + 1) ⟨s, g, [I g, S nm, I (s.time + 1), I s.who, I 1, .nils 4, .nils 1], 2000000, 2000016, 2000304, 2000464, 2000290, 2000291⟩ hs.in_ (by simp only; omega) (2000336, 2000512)
        have f1 := List.length_filter_le (fun b : Box => decide (b.gid < g)) s.boxes
        have f2 := List.length_filter_le (fun b : Box => decide (g < b.gid)) s.boxes
        obtain ⟨⟨v2, n2⟩, r2⟩ := mc_loop kc6 (s.boxes.length + 1) ⟨s, g, [], 2000000, 2000016, 2000304, 0, 2000290, 2000291⟩ hs.in_ (by simp only; omega) ((s.boxes.filter fun b => decide (b.gid < g)) ++ [newBox s g nm]) (by simp; omega) (n1 + 64, n1 + 128)
        have ez : ((0 : Nat) : Int) = 0 := rfl
        have el1 : ((s.boxes.filter fun b => decide (b.gid < g)).map encBox).length = (s.boxes.filter fun b => decide (b.gid < g)).length := by simp
        have em : (((s.boxes.filter fun b => decide (b.gid < g)) ++ [newBox s g nm]).map encBox) = (s.boxes.filter fun b => decide (b.gid < g)).map encBox ++ [[I g, S nm, I (s.time + 1), I s.who, I 1, .sl false 4 [], .sl false 1 []]] := by simp [newBox, encBox, irow]
        have eml : ((s.boxes.filter fun b => decide (b.gid < g)) ++ [newBox s g nm]).length = (s.boxes.filter fun b => decide (b.gid < g)).length + 1 := by simp
        have e6 : (s.boxes.filter fun b => decide (b.gid < g)).length + 1 ≤ 4294967296 := by omega
        have emt : (makeTo s g nm).boxes = (s.boxes.filter fun b => decide (b.gid < g)) ++ [newBox s g nm] ++ s.boxes.filter fun b => decide (g < b.gid) := rfl
        have el2 : ((makeTo s g nm).boxes.map encBox).length = (makeTo s g nm).boxes.length := by simp
        have ew : (makeTo s g nm).who = s.who := rfl
        have et : (makeTo s g nm).time = s.time + 1 := rfl
        have egn : (makeTo s g nm).gone = s.gone := rfl
        simp only [mbS, mbE, mb8, ez, List.map_nil, List.length_nil] at r1
        simp only [mcS, mcE, mb8, ez, ← emt, em, eml] at r2
        clear emt em eml
        generalize intO (named s.boxes nm) = z at *
        generalize (s.boxes.filter fun b => decide (b.gid < g)).map encBox = rf at *
        generalize (s.boxes.filter fun b => decide (b.gid < g)).length = nf at *
        cases c : storeOk (makeTo s g nm) with
        | true =>
          rw [c] at h6
          rw [if_pos rfl]
          simp only [encStore, encStoreO, boxes, ints, ew, et, egn] at h2 h3 h4 h5 h6 h7 r1 r2 ⊢
          clear c
          generalize (makeTo s g nm).boxes.map encBox = rm at *
          generalize (makeTo s g nm).boxes.length = nm2 at *
          generalize s.boxes.map encBox = rb at *
          generalize irow s.gone = rs at *
          simp (maxSteps := 1000000) [exB, spec_MakeBox.m, spec_MakeBox.b, List.range_succ, bs_get, setAt, c0, h2, h3, h4, h5, h6, h7, r1, r2, e5, e6, el1, el2, er, eg, List.take_of_length_le]
        | false =>
          rw [c] at h6
          rw [if_neg (by decide)]
          simp only [encStore, encStoreO, boxes, ints, ew, et, egn] at h2 h3 h4 h5 h6 h7 r1 r2 ⊢
          clear c
          generalize (makeTo s g nm).boxes.map encBox = rm at *
          generalize (makeTo s g nm).boxes.length = nm2 at *
          generalize s.boxes.map encBox = rb at *
          generalize irow s.gone = rs at *
          simp (maxSteps := 1000000) [exB, spec_MakeBox.m, spec_MakeBox.b, List.range_succ, bs_get, setAt, c0, h2, h3, h4, h5, h6, h7, r1, r2, e5, e6, el1, el2, er, eg, List.take_of_length_le]
end Mx

namespace Mx
open Go
structure GoodS (s : Store) : Prop where
  who : 1 ≤ s.who ∧ s.who ≤ 2
  time : 0 ≤ s.time ∧ s.time ≤ 100000
  len : s.boxes.length ≤ 5
  gone : Asc s.gone
  goneR : ∀ g ∈ s.gone, 1 ≤ g ∧ g ≤ 9999
  goneL : s.gone.length ≤ 20
  box : ∀ b ∈ s.boxes, Good b ∧ ¬ b.gid ∈ s.gone ∧ late b s.time = false
  asc : s.boxes.Pairwise fun x y => x.gid < y.gid
  names : s.boxes.Pairwise fun x y => x.name ≠ y.name
  mails : (s.boxes.flatMap gidsOf).Nodup
theorem named_at {l : List Box} (i : Nat) (hi : i < l.length) : intO (named l l[i].name) = (i : Int) ↔ ∀ j (hj : j < i), (l[j]'(by omega)).name ≠ l[i].name := by
  unfold named
  constructor
  · intro h j hj e
    cases q : l.findIdx? (fun b => decide (b.name = l[i].name)) with
    | none => rw [q] at h; simp [intO] at h
    | some k =>
      rw [q] at h
      simp only [intO] at h
      have hk : k = i := by omega
      subst hk
      have := (List.findIdx?_eq_some_iff_getElem.1 q).2.2 j hj
      simp [e] at this
  · intro h
    have : l.findIdx? (fun b => decide (b.name = l[i].name)) = some i := List.findIdx?_eq_some_iff_getElem.2 ⟨hi, by simp, fun j hj => by simpa using h j hj⟩
    rw [this]; rfl
theorem dups_iff (seen l : List Int) (hs : seen.Nodup) : dups seen l = false ↔ (seen ++ l).Nodup := by
  have h0 : dups seen l = false ↔ ∀ k (hk : k < l.length), ¬ l[k] ∈ seen ++ l.take k := by
    unfold dups
    rw [Option.isSome_eq_false_iff, Option.isNone_iff_eq_none, firstN_isNone]
    constructor
    · intro h k hk c
      have := h k hk
      rw [dupAt_at hk] at this
      simp only [decide_eq_false_iff_not] at this
      exact this c
    · intro h k hk
      rw [dupAt_at hk]
      simpa using h k hk
  rw [h0]
  constructor
  · intro h
    have key : ∀ k, k ≤ l.length → (seen ++ l.take k).Nodup := by
      intro k
      induction k with
      | zero => intro _; simpa using hs
      | succ k ih =>
        intro hk
        rw [take_snoc l k (by omega), ← List.append_assoc, List.nodup_append]
        refine ⟨ih (by omega), by simp, fun a ha b hb e => ?_⟩
        simp only [List.mem_singleton] at hb
        subst hb
        subst e
        exact h k (by omega) ha
    have := key l.length (Nat.le_refl _)
    rwa [List.take_length] at this
  · intro h k hk c
    have e : l = l.take k ++ l[k] :: l.drop (k + 1) := by rw [← List.drop_eq_getElem_cons hk, List.take_append_drop]
    rw [e, ← List.append_assoc, List.nodup_append] at h
    exact h.2.2 _ c _ (List.mem_cons_self ..) rfl
theorem seen_iff (s : Store) : (∀ i (hi : i < s.boxes.length), dups (seenAt s i) (gidsOf s.boxes[i]) = false) ↔ (s.boxes.flatMap gidsOf).Nodup := by
  have ha : seenAt s s.boxes.length = s.boxes.flatMap gidsOf := by simp [seenAt]
  constructor
  · intro h
    have key : ∀ k, k ≤ s.boxes.length → (seenAt s k).Nodup := by
      intro k
      induction k with
      | zero => intro _; simp [seenAt]
      | succ k ih =>
        intro hk
        rw [seenAt_succ (by omega)]
        exact (dups_iff _ _ (ih (by omega))).1 (h k (by omega))
    rw [← ha]; exact key _ (Nat.le_refl _)
  · intro h i hi
    have hsub : (seenAt s (i + 1)).Sublist (s.boxes.flatMap gidsOf) := by
      have e : s.boxes.flatMap gidsOf = seenAt s (i + 1) ++ (s.boxes.drop (i + 1)).flatMap gidsOf := by
        rw [seenAt, ← List.flatMap_append, List.take_append_drop]
      rw [e]; exact List.sublist_append_left ..
    have h1 := h.sublist hsub
    rw [seenAt_succ hi] at h1
    exact (dups_iff _ _ (List.nodup_append.1 h1).1).2 h1
theorem storeOk_iff {s : Store} : storeOk s = true ↔ GoodS s := by
  have hsplit : (∀ i (hi : i < s.boxes.length), badAt s i = false) ↔ (∀ i (hi : i < s.boxes.length), badBox s i = false) ∧ (∀ i (hi : i < s.boxes.length), dups (seenAt s i) (gidsOf s.boxes[i]) = false) := by
    constructor
    · intro h
      exact ⟨fun i hi => by have := h i hi; rw [badAt_at hi, Bool.or_eq_false_iff] at this; exact this.1, fun i hi => by have := h i hi; rw [badAt_at hi, Bool.or_eq_false_iff] at this; exact this.2⟩
    · intro h i hi
      rw [badAt_at hi, Bool.or_eq_false_iff]
      exact ⟨h.1 i hi, h.2 i hi⟩
  have hbox : ∀ i (hi : i < s.boxes.length), badBox s i = false ↔ boxOk s.boxes[i] = true ∧ (0 < i → (s.boxes[i - 1]'(by omega)).gid < s.boxes[i].gid) ∧ (∀ j (hj : j < i), (s.boxes[j]'(by omega)).name ≠ s.boxes[i].name) ∧ ¬ s.boxes[i].gid ∈ s.gone ∧ late s.boxes[i] s.time = false := fun i hi => by
    rw [badBox_at hi, ← named_at i hi]
    simp only [Bool.or_eq_false_iff, Bool.not_eq_eq_eq_not, Bool.not_false, Bool.and_eq_false_imp, decide_eq_true_eq, decide_eq_false_iff_not, Int.not_le]
    constructor
    · rintro ⟨⟨⟨⟨h1, h2⟩, h3⟩, h4⟩, h5⟩; exact ⟨h1, h2, h3, h4, h5⟩
    · rintro ⟨h1, h2, h3, h4, h5⟩; exact ⟨⟨⟨⟨h1, h2⟩, h3⟩, h4⟩, h5⟩
  have hq : storeOk s = true ↔ ((((1 ≤ s.who ∧ s.who ≤ 2) ∧ 0 ≤ s.time ∧ s.time ≤ 100000) ∧ s.boxes.length ≤ 5) ∧ gidsOk s.gone 20 = true) ∧ ∀ i (hi : i < s.boxes.length), badAt s i = false := by
    simp only [storeOk, Bool.and_eq_true, decide_eq_true_eq, Option.isNone_iff_eq_none, firstN_isNone, inR_iff]
  rw [hq, hsplit, seen_iff]
  constructor
  · rintro ⟨⟨⟨⟨h1, h2⟩, h3⟩, h4⟩, h5, h6⟩
    obtain ⟨g1, g2, g3⟩ := gidsOk_iff.1 h4
    have hb := fun i hi => (hbox i hi).1 (h5 i hi)
    refine ⟨h1, h2, h3, g1, g2, by omega, fun b hbm => ?_, ?_, ?_, h6⟩
    · obtain ⟨i, hi, rfl⟩ := List.getElem_of_mem hbm
      exact ⟨boxOk_iff.1 (hb i hi).1, (hb i hi).2.2.2.1, (hb i hi).2.2.2.2⟩
    · have hA : Asc (s.boxes.map (·.gid)) := step_asc fun j hj => by
        simp only [List.length_map] at hj
        have := (hb (j + 1) hj).2.1 (by omega)
        simpa using this
      exact List.pairwise_map.1 hA
    · exact List.pairwise_iff_getElem.2 fun i j hi hj hij => (hb j hj).2.2.1 i hij
  · intro h
    refine ⟨⟨⟨⟨h.who, h.time⟩, h.len⟩, gidsOk_iff.2 ⟨h.gone, h.goneR, by have := h.goneL; omega⟩⟩, fun i hi => (hbox i hi).2 ⟨boxOk_iff.2 (h.box _ (List.getElem_mem hi)).1, fun q => List.pairwise_iff_getElem.1 h.asc (i - 1) i (by omega) hi (by omega), fun j hj => List.pairwise_iff_getElem.1 h.names j i (by omega) hi hj, (h.box _ (List.getElem_mem hi)).2.1, (h.box _ (List.getElem_mem hi)).2.2⟩, h.mails⟩
end Mx

namespace Mx
open Go
theorem flat_sub {l l' : List Box} (h : l.Sublist l') : (l.flatMap gidsOf).Sublist (l'.flatMap gidsOf) := by
  induction h with
  | slnil => exact List.Sublist.refl _
  | cons a _ ih => rw [List.flatMap_cons]; exact ih.trans (List.sublist_append_right _ _)
  | cons_cons a _ ih => rw [List.flatMap_cons, List.flatMap_cons]; exact List.Sublist.append (List.Sublist.refl _) ih
theorem stamped_ok {s : Store} (h : storeOk s = true) (i : Nat) (b : Box) : storeOk (stamped s i b).1 = true := by
  unfold stamped
  split
  · rename_i c; exact c
  · exact h
theorem at_ok {s : Store} (h : storeOk s = true) (g : Int) (f : Nat → Box → Store × Bool) (hf : ∀ i (hi : i < s.boxes.length), storeOk (f i s.boxes[i]).1 = true) : storeOk (at_ s g f).1 = true := by
  cases c : boxO s.boxes g with
  | none => rw [at_none c]; exact h
  | some i =>
    obtain ⟨hi, _⟩ := boxO_some c
    rw [at_some c hi]
    exact hf i hi
theorem putMail_ok {s : Store} (h : storeOk s = true) (g m f : Int) (x : List UInt8) : storeOk (putMail s g m f x).1 = true := by
  unfold putMail
  split
  · refine at_ok h _ _ fun i hi => ?_
    split
    · exact stamped_ok h _ _
    · exact h
  · exact h
theorem markMail_ok {s : Store} (h : storeOk s = true) (g m f : Int) : storeOk (markMail s g m f).1 = true := by
  unfold markMail
  rw [if_pos h]
  refine at_ok h _ _ fun i hi => ?_
  split
  · exact stamped_ok h _ _
  · exact h
theorem renameBox_ok {s : Store} (h : storeOk s = true) (g : Int) (nm : List UInt8) : storeOk (renameBox s g nm).1 = true := by
  unfold renameBox
  split
  · exact at_ok h _ _ fun i hi => stamped_ok h _ _
  · exact h
theorem makeBox_ok {s : Store} (h : storeOk s = true) (g : Int) (nm : List UInt8) : storeOk (makeBox s g nm).1 = true := by
  unfold makeBox
  split
  · split
    · rename_i c; exact c
    · exact h
  · exact h
theorem dropBox_ok {s : Store} (h : storeOk s = true) {g : Int} (hg : 1 ≤ g ∧ g ≤ 9999) : storeOk (dropBox s g).1 = true := by
  unfold dropBox
  split
  · rename_i c
    cases q : boxO s.boxes g with
    | none => rw [at_none q]; exact h
    | some i =>
      obtain ⟨hi, hbi⟩ := boxO_some q
      rw [at_some q hi]
      have G := storeOk_iff.1 h
      have hs := sub_take_drop s.boxes i
      have hgi := (boxIn_some hbi).2
      refine storeOk_iff.2 ⟨G.who, G.time, Nat.le_trans hs.length_le G.len, gput_asc G.gone, fun x hx => ?_, by have := gput_le s.gone g; simp only; omega, fun b hb => ?_, G.asc.sublist hs, G.names.sublist hs, G.mails.sublist (flat_sub hs)⟩
      · rcases gput_mem.1 hx with e | e
        · rw [e]; exact hg
        · exact G.goneR x e
      · obtain ⟨b1, b2, b3⟩ := G.box b (hs.subset hb)
        refine ⟨b1, fun e => ?_, b3⟩
        rcases gput_mem.1 e with e | e
        · rcases List.mem_append.1 hb with z | z
          · obtain ⟨j, hj, rfl⟩ := List.getElem_of_mem z
            simp only [List.length_take] at hj
            rw [List.getElem_take] at e
            have := List.pairwise_iff_getElem.1 G.asc j i (by omega) hi (by omega)
            omega
          · obtain ⟨j, hj, rfl⟩ := List.getElem_of_mem z
            rw [List.getElem_drop] at e
            have := List.pairwise_iff_getElem.1 G.asc i (i + 1 + j) hi (by simp at hj; omega) (by omega)
            omega
        · exact b2 e
  · exact h
theorem takeOut_parts {b : Box} (hb : Good b) {m : Int} (ok : (takeOut b m).2 = true) : Good (takeOut b m).1 ∧ (takeOut b m).1.gid = b.gid ∧ (takeOut b m).1.name = b.name ∧ (takeOut b m).1.time = b.time ∧ (takeOut b m).1.mails.Sublist b.mails := by
  unfold takeOut at ok ⊢
  cases q : mailO b.mails m with
  | none => rw [q] at ok; cases ok
  | some k =>
    rw [q] at ok
    simp only at ok ⊢
    obtain ⟨hlt, he, _⟩ := mailO_some q
    by_cases c : boxOk b = true ∧ b.gone.length < 40
    · rw [if_pos c]
      have := good_take hb hlt c.2
      rw [he] at this
      exact ⟨this, rfl, rfl, rfl, sub_take_drop b.mails k⟩
    · rw [if_neg c] at ok; cases ok
theorem dropMail_ok {s : Store} (h : storeOk s = true) (g m : Int) : storeOk (dropMail s g m).1 = true := by
  unfold dropMail
  rw [if_pos h]
  refine at_ok h _ _ fun i hi => ?_
  split
  · rename_i c
    have G := storeOk_iff.1 h
    obtain ⟨b1, b2, b3⟩ := G.box _ (List.getElem_mem hi)
    obtain ⟨t1, t2, t3, t4, t5⟩ := takeOut_parts b1 c
    generalize (takeOut s.boxes[i] m).1 = b' at *
    have e1 : (s.boxes.set i b').map (·.gid) = s.boxes.map (·.gid) := by
      rw [List.map_set]; apply List.ext_getElem <;> simp [List.getElem_set]; intro j hj h2; subst h2; exact t2
    have e2 : (s.boxes.set i b').map (·.name) = s.boxes.map (·.name) := by
      rw [List.map_set]; apply List.ext_getElem <;> simp [List.getElem_set]; intro j hj h2; subst h2; exact t3
    refine storeOk_iff.2 ⟨G.who, G.time, by simpa using G.len, G.gone, G.goneR, G.goneL, fun b hb => ?_, ?_, ?_, ?_⟩
    · rcases List.mem_or_eq_of_mem_set hb with q | q
      · exact G.box b q
      · subst q
        refine ⟨t1, by rw [t2]; exact b2, ?_⟩
        unfold late at b3 ⊢
        simp only [Bool.or_eq_false_iff, List.any_eq_false] at b3 ⊢
        rw [t4]
        exact ⟨b3.1, fun x hx => b3.2 x (t5.subset hx)⟩
    · have : (s.boxes.map (·.gid)).Pairwise (fun a b : Int => a < b) := List.pairwise_map.2 G.asc
      rw [← e1] at this
      exact List.pairwise_map.1 this
    · have : (s.boxes.map (·.name)).Pairwise (fun a b : List UInt8 => a ≠ b) := List.pairwise_map.2 G.names
      rw [← e2] at this
      exact List.pairwise_map.1 this
    · have e : s.boxes.set i b' = s.boxes.take i ++ b' :: s.boxes.drop (i + 1) := List.set_eq_take_append_cons_drop.trans (by rw [if_pos hi])
      have e' : s.boxes = s.boxes.take i ++ s.boxes[i] :: s.boxes.drop (i + 1) := by rw [← List.drop_eq_getElem_cons hi, List.take_append_drop]
      have hm := G.mails
      rw [e'] at hm
      simp only
      rw [e]
      refine hm.sublist ?_
      simp only [List.flatMap_append, List.flatMap_cons]
      exact List.Sublist.append (List.Sublist.refl _) (List.Sublist.append (t5.map _) (List.Sublist.refl _))
  · exact h
end Mx

namespace Mx
open Go
variable {M : Nat → Option Body}
structure UzS where
  i : Nat
  s : Store
  w : Bool
  v1 : Nat
  v2 : Nat
  ic : Nat
  q : Int
  n : Nat
structure UzC where
  R : List (List T)
  u5 : Nat
  u8 : Nat
  N : Nat
  base : Nat
def uzB (s : UzS) : List T := if s.w = true then [I s.s.who, I s.s.time, .row 15502 s.v1 0 s.s.boxes.length, .row 15503 s.v2 0 s.s.gone.length] else encStore s.s
def uzX (s : UzS) : List (Nat × Ob) := if s.w = true then [(15502, ⟨s.v1, 7, true, false, s.s.boxes.map encBox⟩), (15503, ⟨s.v2, 1, true, false, irow s.s.gone⟩)] else []
def uzO (c : UzC) (s : UzS) : List (Nat × Ob) := curD c.R s.ic s.q :: (5, ⟨c.u5, 4, true, true, [uzB s]⟩) :: (8, ⟨c.u8, 4, true, true, [szero]⟩) :: uzX s
def uzT (c : UzC) (i : Nat) (e : List (Nat × V)) : List (Nat × V) := (0, .c (.ptr 0 0 0 0)) :: (2, .c (I c.N)) :: (3, .c (I c.base)) :: (5, .c (.ptr 5 c.u5 0 0)) :: (8, .c (.ptr 8 c.u8 0 0)) :: (9, .c (I i)) :: e
def uzS (c : UzC) (s : UzS) (e : List (Nat × V)) : St := { t := uzT c s.i e, o := uzO c s, n := s.n }
def uzR (c : UzC) (i : Nat) (s : Store) (w : Bool) (ic : Nat) (q : Int) (e : List (Nat × V)) (y : Nat × Nat × Nat) : St := uzS c ⟨i, s, w, y.1, y.2.1, ic, q, y.2.2⟩ e
/-- ahead of what is done: the box, the mail, the number -/
abbrev uyE (box gid x : Int) : List (Nat × V) := [(10, .c (I box)), (11, .c (I gid)), (13, .c (I x))]
def UzD (M : Nat → Option Body) (c : UzC) (k : Nat) (s : UzS) (box gid x : Int) (s' : Store) (ic' : Nat) (q' : Int) : Prop :=
  ∃ v1' v2' n', exC (run M) k spec_l07Use.br (uzS c s (uyE box gid x)) = some (.normal, uzS c ⟨s.i, s', true, v1', v2', ic', q', n'⟩ [])
structure UzF (s : UzS) : Prop where
  e7 : (s.s.boxes.map encBox).length = s.s.boxes.length
  e8 : (irow s.s.gone).length = s.s.gone.length
theorem uzF (s : UzS) : UzF s := ⟨by simp, irow_length _⟩
set_option maxHeartbeats 4000000 in
theorem uz_put (c : UzC) (k : Nat) (s : UzS) (box gid x : Int) (f ic1 ic2 : Nat) (tx : ByteArray) (q1 q2 : Int) (s' : Store) (ok : Bool) (hb : ¬ box = 0) (hx : ¬ x = 0) (hx6 : x < 6) (hbase : c.base ≤ 1000) (hi : s.i ≤ 1000)
    (h1 : run M 125 [.c (.ptr 0 0 0 0), .c (I 8)] [curD c.R s.ic s.q] = some (.c (I f), [curD c.R ic1 q1]))
    (h2 : run M 174 [.c (.ptr 0 0 0 0)] [curD c.R ic1 q1] = some (.c (.str tx), [curD c.R ic2 q2]))
    (h3 : run M 279 [.a (encStore s.s), .c (I box), .c (I ((c.base : Int) + (s.i : Int))), .c (I f), .c (.str tx)] [] = some (.tup [.a (encStoreO s'), .c (.bool ok)], [])) :
    UzD M c k s box gid x s' ic2 q2 := by
  have e4 : IntKind.i64.wrap ((c.base : Int) + (s.i : Int)) = (c.base : Int) + (s.i : Int) := wrap_i64 (by omega) (by omega)
  obtain ⟨e7, e8⟩ := uzF s
  have e9 : (s'.boxes.map encBox).length = s'.boxes.length := by simp
  have e10 := irow_length s'.gone
  obtain ⟨R, u5, u8, N, base⟩ := c
  obtain ⟨i, st, w, v1, v2, ic, q, n⟩ := s
  simp only at *
  simp only [UzD, uzS, uzT, uzO, uzB, uzX, uyE]
  simp only [encStore, encStoreO, boxes, ints] at h3 ⊢
  have m1 : (st.boxes.map encBox).take st.boxes.length = st.boxes.map encBox := List.take_of_length_le (by omega)
  have m2 : (irow st.gone).take st.gone.length = irow st.gone := List.take_of_length_le (by omega)
  generalize s'.boxes.map encBox = rb' at *
  generalize irow s'.gone = rg' at *
  generalize st.boxes.map encBox = rb at *
  generalize irow st.gone = rg at *
  cases w
  · simp only [Bool.false_eq_true, if_false]
    simp (maxSteps := 1000000) [spec_l07Use.br, List.range_succ, bs_get, setAt, h1, h2, h3, hb, hx, hx6, e4, e7, e8, e9, e10, m1, m2]
  · simp only [if_true]
    simp (maxSteps := 1000000) [spec_l07Use.br, List.range_succ, bs_get, setAt, h1, h2, h3, hb, hx, hx6, e4, e7, e8, e9, e10, m1, m2]
set_option maxHeartbeats 4000000 in
theorem uz_mark (c : UzC) (k : Nat) (s : UzS) (box gid x : Int) (f ic1 : Nat) (q1 : Int) (s' : Store) (ok : Bool) (hb : ¬ box = 0) (hx : ¬ x = 0) (hx6 : ¬ x < 6) (hx9 : x < 9)
    (h1 : run M 125 [.c (.ptr 0 0 0 0), .c (I 8)] [curD c.R s.ic s.q] = some (.c (I f), [curD c.R ic1 q1]))
    (h3 : run M 280 [.a (encStore s.s), .c (I box), .c (I gid), .c (I f)] [] = some (.tup [.a (encStoreO s'), .c (.bool ok)], [])) :
    UzD M c k s box gid x s' ic1 q1 := by
  obtain ⟨e7, e8⟩ := uzF s
  have e9 : (s'.boxes.map encBox).length = s'.boxes.length := by simp
  have e10 := irow_length s'.gone
  obtain ⟨R, u5, u8, N, base⟩ := c
  obtain ⟨i, st, w, v1, v2, ic, q, n⟩ := s
  simp only at *
  simp only [UzD, uzS, uzT, uzO, uzB, uzX, uyE]
  simp only [encStore, encStoreO, boxes, ints] at h3 ⊢
  have m1 : (st.boxes.map encBox).take st.boxes.length = st.boxes.map encBox := List.take_of_length_le (by omega)
  have m2 : (irow st.gone).take st.gone.length = irow st.gone := List.take_of_length_le (by omega)
  generalize s'.boxes.map encBox = rb' at *
  generalize irow s'.gone = rg' at *
  generalize st.boxes.map encBox = rb at *
  generalize irow st.gone = rg at *
  cases w
  · simp only [Bool.false_eq_true, if_false]
    simp (maxSteps := 1000000) [spec_l07Use.br, List.range_succ, bs_get, setAt, h1, h3, hb, hx, hx6, hx9, e7, e8, e9, e10, m1, m2]
  · simp only [if_true]
    simp (maxSteps := 1000000) [spec_l07Use.br, List.range_succ, bs_get, setAt, h1, h3, hb, hx, hx6, hx9, e7, e8, e9, e10, m1, m2]
set_option maxHeartbeats 4000000 in
theorem uz_drop (c : UzC) (k : Nat) (s : UzS) (box gid x : Int) (s' : Store) (ok : Bool) (hb : ¬ box = 0) (hx : x = 9)
    (h3 : run M 281 [.a (encStore s.s), .c (I box), .c (I gid)] [] = some (.tup [.a (encStoreO s'), .c (.bool ok)], [])) :
    UzD M c k s box gid x s' s.ic s.q := by
  subst hx
  obtain ⟨e7, e8⟩ := uzF s
  have e9 : (s'.boxes.map encBox).length = s'.boxes.length := by simp
  have e10 := irow_length s'.gone
  obtain ⟨R, u5, u8, N, base⟩ := c
  obtain ⟨i, st, w, v1, v2, ic, q, n⟩ := s
  simp only at *
  simp only [UzD, uzS, uzT, uzO, uzB, uzX, uyE]
  simp only [encStore, encStoreO, boxes, ints] at h3 ⊢
  have m1 : (st.boxes.map encBox).take st.boxes.length = st.boxes.map encBox := List.take_of_length_le (by omega)
  have m2 : (irow st.gone).take st.gone.length = irow st.gone := List.take_of_length_le (by omega)
  generalize s'.boxes.map encBox = rb' at *
  generalize irow s'.gone = rg' at *
  generalize st.boxes.map encBox = rb at *
  generalize irow st.gone = rg at *
  cases w
  · simp only [Bool.false_eq_true, if_false]
    simp (maxSteps := 1000000) [spec_l07Use.br, List.range_succ, bs_get, setAt, h3, hb, e7, e8, e9, e10, m1, m2]
  · simp only [if_true]
    simp (maxSteps := 1000000) [spec_l07Use.br, List.range_succ, bs_get, setAt, h3, hb, e7, e8, e9, e10, m1, m2]
def nm4 : List (List UInt8) := [[105, 110, 98, 111, 120], [119, 111, 114, 107], [110, 101, 119], [111, 116, 104, 101, 114]]
def nm3 : List (List UInt8) := [[105, 110, 98, 111, 120], [119, 111, 114, 107], [111, 108, 100]]
set_option maxHeartbeats 4000000 in
theorem uz_name (c : UzC) (k : Nat) (s : UzS) (box gid x : Int) (ic1 : Nat) (tx : ByteArray) (q1 : Int) (s' : Store) (ok : Bool) (hb : ¬ box = 0) (hx : x = 10)
    (h1 : run M 185 [.c (.ptr 0 0 0 0), .c (.sl false 1 (nm4.map fun s => [S s]))] [curD c.R s.ic s.q] = some (.c (.str tx), [curD c.R ic1 q1]))
    (h3 : run M 282 [.a (encStore s.s), .c (I box), .c (.str tx)] [] = some (.tup [.a (encStoreO s'), .c (.bool ok)], [])) :
    UzD M c k s box gid x s' ic1 q1 := by
  subst hx
  obtain ⟨e7, e8⟩ := uzF s
  have e9 : (s'.boxes.map encBox).length = s'.boxes.length := by simp
  have e10 := irow_length s'.gone
  simp only [nm4, List.map_cons, List.map_nil, bs] at h1
  obtain ⟨R, u5, u8, N, base⟩ := c
  obtain ⟨i, st, w, v1, v2, ic, q, n⟩ := s
  simp only at *
  simp only [UzD, uzS, uzT, uzO, uzB, uzX, uyE]
  simp only [encStore, encStoreO, boxes, ints] at h3 ⊢
  have m1 : (st.boxes.map encBox).take st.boxes.length = st.boxes.map encBox := List.take_of_length_le (by omega)
  have m2 : (irow st.gone).take st.gone.length = irow st.gone := List.take_of_length_le (by omega)
  generalize s'.boxes.map encBox = rb' at *
  generalize irow s'.gone = rg' at *
  generalize st.boxes.map encBox = rb at *
  generalize irow st.gone = rg at *
  cases w
  · simp only [Bool.false_eq_true, if_false]
    simp (maxSteps := 1000000) [spec_l07Use.br, List.range_succ, bs_get, setAt, h1, h3, hb, e7, e8, e9, e10, m1, m2]
  · simp only [if_true]
    simp (maxSteps := 1000000) [spec_l07Use.br, List.range_succ, bs_get, setAt, h1, h3, hb, e7, e8, e9, e10, m1, m2]
set_option maxHeartbeats 4000000 in
theorem uz_make (c : UzC) (k : Nat) (s : UzS) (box gid x : Int) (ic1 : Nat) (tx : ByteArray) (q1 : Int) (s' : Store) (ok : Bool) (hb : box = 0 ∨ x = 0) (hbase : c.base ≤ 1000) (hi : s.i ≤ 1000)
    (h1 : run M 185 [.c (.ptr 0 0 0 0), .c (.sl false 1 (nm3.map fun s => [S s]))] [curD c.R s.ic s.q] = some (.c (.str tx), [curD c.R ic1 q1]))
    (h3 : run M 278 [.a (encStore s.s), .c (I ((c.base : Int) + (s.i : Int))), .c (.str tx)] [] = some (.tup [.a (encStoreO s'), .c (.bool ok)], [])) :
    UzD M c k s box gid x s' ic1 q1 := by
  have e4 : IntKind.i64.wrap ((c.base : Int) + (s.i : Int)) = (c.base : Int) + (s.i : Int) := wrap_i64 (by omega) (by omega)
  obtain ⟨e7, e8⟩ := uzF s
  have e9 : (s'.boxes.map encBox).length = s'.boxes.length := by simp
  have e10 := irow_length s'.gone
  simp only [nm3, List.map_cons, List.map_nil, bs] at h1
  obtain ⟨R, u5, u8, N, base⟩ := c
  obtain ⟨i, st, w, v1, v2, ic, q, n⟩ := s
  simp only at *
  simp only [UzD, uzS, uzT, uzO, uzB, uzX, uyE]
  simp only [encStore, encStoreO, boxes, ints] at h3 ⊢
  have m1 : (st.boxes.map encBox).take st.boxes.length = st.boxes.map encBox := List.take_of_length_le (by omega)
  have m2 : (irow st.gone).take st.gone.length = irow st.gone := List.take_of_length_le (by omega)
  generalize s'.boxes.map encBox = rb' at *
  generalize irow s'.gone = rg' at *
  generalize st.boxes.map encBox = rb at *
  generalize irow st.gone = rg at *
  by_cases hb0 : box = 0
  · subst hb0
    cases w
    · simp only [Bool.false_eq_true, if_false]
      simp (maxSteps := 1000000) [spec_l07Use.br, List.range_succ, bs_get, setAt, h1, h3, e4, e7, e8, e9, e10, m1, m2]
    · simp only [if_true]
      simp (maxSteps := 1000000) [spec_l07Use.br, List.range_succ, bs_get, setAt, h1, h3, e4, e7, e8, e9, e10, m1, m2]
  · have hx : x = 0 := by omega
    subst hx
    cases w
    · simp only [Bool.false_eq_true, if_false]
      simp (maxSteps := 1000000) [spec_l07Use.br, List.range_succ, bs_get, setAt, h1, h3, hb0, e4, e7, e8, e9, e10, m1, m2]
    · simp only [if_true]
      simp (maxSteps := 1000000) [spec_l07Use.br, List.range_succ, bs_get, setAt, h1, h3, hb0, e4, e7, e8, e9, e10, m1, m2]
set_option maxHeartbeats 4000000 in
theorem uz_lose (c : UzC) (k : Nat) (s : UzS) (box gid x : Int) (ic1 : Nat) (q1 : Int) (s' : Store) (ok : Bool) (hb : ¬ box = 0) (hx : 11 ≤ x)
    (h1 : run M 175 [.c (.ptr 0 0 0 0), .c (I 3)] [curD c.R s.ic s.q] = some (.c (.bool true), [curD c.R ic1 q1]))
    (h3 : run M 283 [.a (encStore s.s), .c (I box)] [] = some (.tup [.a (encStoreO s'), .c (.bool ok)], [])) :
    UzD M c k s box gid x s' ic1 q1 := by
  have x0 : ¬ x = 0 := by omega
  have x6 : ¬ x < 6 := by omega
  have x9 : ¬ x < 9 := by omega
  have y9 : ¬ x = 9 := by omega
  have y10 : ¬ x = 10 := by omega
  obtain ⟨e7, e8⟩ := uzF s
  have e9 : (s'.boxes.map encBox).length = s'.boxes.length := by simp
  have e10 := irow_length s'.gone
  obtain ⟨R, u5, u8, N, base⟩ := c
  obtain ⟨i, st, w, v1, v2, ic, q, n⟩ := s
  simp only at *
  simp only [UzD, uzS, uzT, uzO, uzB, uzX, uyE]
  simp only [encStore, encStoreO, boxes, ints] at h3 ⊢
  have m1 : (st.boxes.map encBox).take st.boxes.length = st.boxes.map encBox := List.take_of_length_le (by omega)
  have m2 : (irow st.gone).take st.gone.length = irow st.gone := List.take_of_length_le (by omega)
  generalize s'.boxes.map encBox = rb' at *
  generalize irow s'.gone = rg' at *
  generalize st.boxes.map encBox = rb at *
  generalize irow st.gone = rg at *
  cases w
  · simp only [Bool.false_eq_true, if_false]
    simp (maxSteps := 1000000) [spec_l07Use.br, List.range_succ, bs_get, setAt, h1, h3, hb, x0, x6, x9, y9, y10, e7, e8, e9, e10, m1, m2]
  · simp only [if_true]
    simp (maxSteps := 1000000) [spec_l07Use.br, List.range_succ, bs_get, setAt, h1, h3, hb, x0, x6, x9, y9, y10, e7, e8, e9, e10, m1, m2]
set_option maxHeartbeats 4000000 in
theorem uz_stay (c : UzC) (k : Nat) (s : UzS) (box gid x : Int) (ic1 : Nat) (q1 : Int) (hb : ¬ box = 0) (hx : 11 ≤ x)
    (h1 : run M 175 [.c (.ptr 0 0 0 0), .c (I 3)] [curD c.R s.ic s.q] = some (.c (.bool false), [curD c.R ic1 q1])) :
    ∃ n', exC (run M) k spec_l07Use.br (uzS c s (uyE box gid x)) = some (.normal, uzS c ⟨s.i, s.s, s.w, s.v1, s.v2, ic1, q1, n'⟩ [(10, .c (I box)), (51, .c (.bool false))]) := by
  have x0 : ¬ x = 0 := by omega
  have x6 : ¬ x < 6 := by omega
  have x9 : ¬ x < 9 := by omega
  have y9 : ¬ x = 9 := by omega
  have y10 : ¬ x = 10 := by omega
  obtain ⟨R, u5, u8, N, base⟩ := c
  obtain ⟨i, st, w, v1, v2, ic, q, n⟩ := s
  simp only at *
  simp only [uzS, uzT, uzO, uzB, uzX, uyE]
  simp only [encStore, boxes, ints]
  generalize st.boxes.map encBox = rb at *
  generalize irow st.gone = rg at *
  cases w
  · simp only [Bool.false_eq_true, if_false]
    simp (maxSteps := 1000000) [spec_l07Use.br, List.range_succ, bs_get, setAt, h1, hb, x0, x6, x9, y9, y10]
  · simp only [if_true]
    simp (maxSteps := 1000000) [spec_l07Use.br, List.range_succ, bs_get, setAt, h1, hb, x0, x6, x9, y9, y10]
end Mx

namespace Mx
open Go
variable {M : Nat → Option Body}
/-- what stands ahead: no box, no mail -/
abbrev uxE : List (Nat × V) := [(10, .c (I 0)), (11, .c (I 0))]
set_option maxHeartbeats 4000000 in
theorem uz_hd0 (c : UzC) (k : Nat) (s : UzS) (x : Int) (ic1 : Nat) (q1 : Int) (hbx : s.s.boxes = [])
    (h1 : run M 125 [.c (.ptr 0 0 0 0), .c (I 12)] [curD c.R s.ic s.q] = some (.c (I x), [curD c.R ic1 q1]))
    (X : Nat → St) (hX : ∀ n, exC (run M) k spec_l07Use.br (uzS c ⟨s.i, s.s, s.w, s.v1, s.v2, ic1, q1, n⟩ (uyE 0 0 x)) = some (.normal, X n)) :
    ∃ n, exC (run M) k spec_l07Use.hd (uzS c s uxE) = some (.normal, X n) := by
  obtain ⟨R, u5, u8, N, base⟩ := c
  obtain ⟨i, st, w, v1, v2, ic, q, n⟩ := s
  simp only at *
  simp only [uzS, uzT, uzO, uzB, uzX, uyE, uxE] at hX ⊢
  simp only [encStore, boxes, ints, hbx, List.map_nil, List.length_nil] at hX ⊢
  generalize irow st.gone = rg at *
  cases w
  · simp only [Bool.false_eq_true, if_false] at hX ⊢
    simp (maxSteps := 1000000) [spec_l07Use.hd, List.range_succ, bs_get, setAt, h1, hX]
    exact ⟨_, rfl⟩
  · simp only [if_true] at hX ⊢
    simp (maxSteps := 1000000) [spec_l07Use.hd, List.range_succ, bs_get, setAt, h1, hX]
    exact ⟨_, rfl⟩
set_option maxHeartbeats 4000000 in
theorem uz_hd1 (c : UzC) (k : Nat) (s : UzS) (x : Int) (j ic0 ic1 : Nat) (q0 q1 : Int) (hj : j < s.s.boxes.length) (hm : s.s.boxes[j].mails = [])
    (h0 : run M 125 [.c (.ptr 0 0 0 0), .c (I s.s.boxes.length)] [curD c.R s.ic s.q] = some (.c (I j), [curD c.R ic0 q0]))
    (h1 : run M 125 [.c (.ptr 0 0 0 0), .c (I 12)] [curD c.R ic0 q0] = some (.c (I x), [curD c.R ic1 q1]))
    (X : Nat → St) (hX : ∀ n, exC (run M) k spec_l07Use.br (uzS c ⟨s.i, s.s, s.w, s.v1, s.v2, ic1, q1, n⟩ (uyE s.s.boxes[j].gid 0 x)) = some (.normal, X n)) :
    ∃ n, exC (run M) k spec_l07Use.hd (uzS c s uxE) = some (.normal, X n) := by
  obtain ⟨e7, e8⟩ := uzF s
  obtain ⟨R, u5, u8, N, base⟩ := c
  obtain ⟨i, st, w, v1, v2, ic, q, n⟩ := s
  simp only at *
  have hj' : j < st.boxes.length := hj
  have a1 : ∀ hh, (st.boxes.map encBox)[j]'hh = encBox st.boxes[j] := by intro hh; simp
  have m1 : (st.boxes.map encBox).take st.boxes.length = st.boxes.map encBox := List.take_of_length_le (by omega)
  have hl : 0 < st.boxes.length := by omega
  simp only [uzS, uzT, uzO, uzB, uzX, uyE, uxE] at hX ⊢
  simp only [encBox, mails, ints, hm, List.map_nil] at a1
  simp only [encStore, boxes, ints] at hX ⊢
  generalize st.boxes[j] = b at *
  generalize st.boxes.map encBox = rb at *
  generalize irow st.gone = rg at *
  generalize irow b.gone = rbg at *
  generalize st.boxes.length = nb at *
  cases w
  · simp only [Bool.false_eq_true, if_false] at hX ⊢
    simp (maxSteps := 1000000) [spec_l07Use.hd, List.range_succ, bs_get, setAt, h0, h1, hX, hl, hj, e7, a1, m1]
    exact ⟨_, rfl⟩
  · simp only [if_true] at hX ⊢
    simp (maxSteps := 1000000) [spec_l07Use.hd, List.range_succ, bs_get, setAt, h0, h1, hX, hl, hj, e7, a1, m1]
    exact ⟨_, rfl⟩
set_option maxHeartbeats 4000000 in
theorem uz_hd2 (c : UzC) (k : Nat) (s : UzS) (x : Int) (j l ic0 ic1 ic2 : Nat) (q0 q1 q2 : Int) (hj : j < s.s.boxes.length) (hl : l < s.s.boxes[j].mails.length)
    (h0 : run M 125 [.c (.ptr 0 0 0 0), .c (I s.s.boxes.length)] [curD c.R s.ic s.q] = some (.c (I j), [curD c.R ic0 q0]))
    (h2 : run M 125 [.c (.ptr 0 0 0 0), .c (I s.s.boxes[j].mails.length)] [curD c.R ic0 q0] = some (.c (I l), [curD c.R ic2 q2]))
    (h1 : run M 125 [.c (.ptr 0 0 0 0), .c (I 12)] [curD c.R ic2 q2] = some (.c (I x), [curD c.R ic1 q1]))
    (X : Nat → St) (hX : ∀ n, exC (run M) k spec_l07Use.br (uzS c ⟨s.i, s.s, s.w, s.v1, s.v2, ic1, q1, n⟩ (uyE s.s.boxes[j].gid (s.s.boxes[j].mails[l]).gid x)) = some (.normal, X n)) :
    ∃ n, exC (run M) k spec_l07Use.hd (uzS c s uxE) = some (.normal, X n) := by
  obtain ⟨e7, e8⟩ := uzF s
  obtain ⟨R, u5, u8, N, base⟩ := c
  obtain ⟨i, st, w, v1, v2, ic, q, n⟩ := s
  simp only at *
  have hj' : j < st.boxes.length := hj
  have hl' : l < st.boxes[j].mails.length := hl
  have a1 : ∀ hh, (st.boxes.map encBox)[j]'hh = encBox st.boxes[j] := by intro hh; simp
  have a2 : ∀ hh : l < (st.boxes[j].mails.map encMail).length, (st.boxes[j].mails.map encMail)[l]'hh = encMail (st.boxes[j].mails[l]'hl') := by intro hh; simp
  have e9 : (st.boxes[j].mails.map encMail).length = st.boxes[j].mails.length := by simp
  have m1 : (st.boxes.map encBox).take st.boxes.length = st.boxes.map encBox := List.take_of_length_le (by omega)
  have m2 : (st.boxes[j].mails.map encMail).take st.boxes[j].mails.length = st.boxes[j].mails.map encMail := List.take_of_length_le (by omega)
  have hl0 : 0 < st.boxes.length := by omega
  have hl1 : 0 < st.boxes[j].mails.length := by omega
  simp only [uzS, uzT, uzO, uzB, uzX, uyE, uxE] at hX ⊢
  simp only [encBox, mails, ints] at a1
  simp only [encMail] at a2
  simp only [encStore, boxes, ints] at hX ⊢
  generalize st.boxes[j].mails[l] = m at *
  generalize st.boxes[j].mails.map encMail = rm at *
  generalize st.boxes[j].mails.length = nm at *
  generalize st.boxes[j] = b at *
  generalize st.boxes.map encBox = rb at *
  generalize irow st.gone = rg at *
  generalize irow b.gone = rbg at *
  generalize st.boxes.length = nb at *
  cases w
  · simp only [Bool.false_eq_true, if_false] at hX ⊢
    simp (maxSteps := 1000000) [spec_l07Use.hd, List.range_succ, bs_get, setAt, h0, h1, h2, hX, hl, hl0, hl1, hj, e7, e9, a1, a2, m1, m2]
    exact ⟨_, rfl⟩
  · simp only [if_true] at hX ⊢
    simp (maxSteps := 1000000) [spec_l07Use.hd, List.range_succ, bs_get, setAt, h0, h1, h2, hX, hl, hl0, hl1, hj, e7, e9, a1, a2, m1, m2]
    exact ⟨_, rfl⟩
/-- behind what is done, where nothing was -/
abbrev uwE (e : Bool) (g : Int) : List (Nat × V) := if e = true then [(10, .c (I g)), (51, .c (.bool false))] else []
set_option maxHeartbeats 4000000 in
theorem uz_l0 (c : UzC) (k : Nat) (s : UzS) (st' : Store) (w' : Bool) (ic' : Nat) (q' : Int) (e : Bool) (g : Int) (hi : s.i < c.N) (hN : c.N ≤ 1000)
    (hX : ∀ n, ∃ y, exC (run M) k spec_l07Use.hd (uzS c { s with n := n } uxE) = some (.normal, uzR c s.i st' w' ic' q' (uwE e g) y)) :
    ∃ y, exC (run M) k spec_l07Use.l0 (uzS c s []) = some (.normal, uzR c (s.i + 1) st' w' ic' q' [] y) := by
  obtain ⟨X, hX⟩ := Classical.skolem.1 hX
  obtain ⟨R, u5, u8, N, base⟩ := c
  obtain ⟨i, st, w, v1, v2, ic, q, n⟩ := s
  simp only at *
  have e5 := wrap1 (i := i) (by omega)
  simp only [uzR, uzS, uzT, uzO, uzB, uzX, uxE, uwE] at hX ⊢
  simp only [encStore, boxes, ints] at hX ⊢
  generalize st.boxes.map encBox = rb at *
  generalize irow st.gone = rg at *
  generalize st'.boxes.map encBox = rb' at *
  generalize irow st'.gone = rg' at *
  cases w <;> cases w' <;> cases e <;> simp only [Bool.false_eq_true, if_false, if_true] at hX ⊢ <;> simp (maxSteps := 1000000) [spec_l07Use.l0, List.range_succ, bs_get, setAt, hX, hi, e5] <;> exact ⟨_, _, _, ⟨⟨rfl, rfl⟩, rfl, rfl⟩, rfl⟩
theorem uz_end (c : UzC) (k : Nat) (s : UzS) (hi : ¬ s.i < c.N) :
    ∃ n', exC (run M) k spec_l07Use.l0 (uzS c s []) = some (.exit 0, uzS c { s with n := n' } [(16, .c (.bool false))]) := by
  obtain ⟨R, u5, u8, N, base⟩ := c
  obtain ⟨i, st, w, v1, v2, ic, q, n⟩ := s
  simp only at *
  simp only [uzS, uzT, uzO, uzB, uzX]
  simp only [encStore, boxes, ints]
  generalize st.boxes.map encBox = rb at *
  generalize irow st.gone = rg at *
  cases w <;> simp only [Bool.false_eq_true, if_false, if_true] <;> simp (maxSteps := 1000000) [spec_l07Use.l0, List.range_succ, bs_get, setAt, hi]
end Mx

namespace Mx
open Go
/-- the numbers that a box knows -/
def KnB (b : Box) (g : Int) : Prop := b.gid = g ∨ g ∈ b.gone ∨ ∃ m ∈ b.mails, m.gid = g
/-- the numbers that a store knows -/
def Kn (s : Store) (g : Int) : Prop := (∃ b ∈ s.boxes, KnB b g) ∨ g ∈ s.gone
def names5 : List (List UInt8) := [[105, 110, 98, 111, 120], [119, 111, 114, 107], [110, 101, 119], [111, 116, 104, 101, 114], [111, 108, 100]]
/-- a box as it comes to lie in a used store -/
structure UsedB (b : Box) : Prop where
  name : b.name ∈ names5
  kn : ∀ g, KnB b g → 100 ≤ g ∧ g ≤ 999
structure Used (n : Nat) (s : Store) : Prop where
  ok : storeOk s = true
  time : s.time ≤ n
  gone : s.gone.length ≤ n
  box : ∀ b ∈ s.boxes, UsedB b
  kn : ∀ g ∈ s.gone, 100 ≤ g ∧ g ≤ 999
theorem Used.all {n : Nat} {s : Store} (h : Used n s) {g : Int} (k : Kn s g) : 100 ≤ g ∧ g ≤ 999 := by
  rcases k with ⟨b, h1, h2⟩ | k
  · exact (h.box b h1).kn g h2
  · exact h.kn g k
theorem Used.mono {n m : Nat} {s : Store} (h : Used n s) (hm : n ≤ m) : Used m s := ⟨h.ok, by have := h.time; omega, by have := h.gone; omega, h.box, h.kn⟩
theorem used_new {w : Int} (h1 : 1 ≤ w) (h2 : w ≤ 2) : Used 0 ⟨w, 0, [], []⟩ :=
  ⟨storeOk_iff.2 ⟨⟨h1, h2⟩, by simp, by simp, List.Pairwise.nil, by simp, by simp, by simp, List.Pairwise.nil, List.Pairwise.nil, List.nodup_nil⟩, by simp, by simp, by simp, by simp⟩
theorem used_stamped {n : Nat} {s : Store} (h : Used n s) (i : Nat) {b : Box} (hb : UsedB b) : Used (n + 1) (stamped s i b).1 := by
  have hok := stamped_ok h.ok i b
  unfold stamped at hok ⊢
  split
  · rename_i c
    rw [if_pos c] at hok
    refine ⟨hok, by have := h.time; simp only [stampedTo]; omega, by have := h.gone; simp only [stampedTo]; omega, fun x hx => ?_, h.kn⟩
    rcases List.mem_or_eq_of_mem_set hx with q | q
    · exact h.box x q
    · rw [q]; exact hb
  · exact h.mono (by omega)
theorem used_at {n : Nat} {s : Store} (h : Used n s) (g : Int) (f : Nat → Box → Store × Bool) (hf : ∀ i (hi : i < s.boxes.length), s.boxes[i].gid = g → Used (n + 1) (f i s.boxes[i]).1) : Used (n + 1) (at_ s g f).1 := by
  cases c : boxO s.boxes g with
  | none => rw [at_none c]; exact h.mono (by omega)
  | some i =>
    obtain ⟨hi, hb⟩ := boxO_some c
    rw [at_some c hi]
    exact hf i hi (boxIn_some hb).2
theorem usedB_add {b : Box} (h : UsedB b) {m : Int} (hm : 100 ≤ m ∧ m ≤ 999) (f : Int) (x : List UInt8) (t w : Int) : UsedB (addMail b m f x t w).1 := by
  unfold addMail
  split
  · refine ⟨h.name, fun g k => ?_⟩
    rcases k with k | k | ⟨y, hy, k⟩
    · exact h.kn g (.inl k)
    · exact h.kn g (.inr (.inl k))
    · rcases List.mem_append.1 hy with q | q
      · exact h.kn g (.inr (.inr ⟨y, q, k⟩))
      · simp only [List.mem_singleton] at q
        subst q; rw [← k]; exact hm
  · exact h
theorem usedB_flag {b : Box} (h : UsedB b) (m n t w : Int) : UsedB (flagMail b m n t w).1 := by
  unfold flagMail
  split
  · exact h
  · rename_i k hk
    split
    · exact h
    · rename_i y hy
      split
      · refine ⟨h.name, fun g k => ?_⟩
        rcases k with k | k | ⟨z, hz, k⟩
        · exact h.kn g (.inl k)
        · exact h.kn g (.inr (.inl k))
        · rcases List.mem_or_eq_of_mem_set hz with q | q
          · exact h.kn g (.inr (.inr ⟨z, q, k⟩))
          · subst q; exact h.kn g (.inr (.inr ⟨y, List.mem_of_getElem? hy, k⟩))
      · exact h
theorem usedB_take {b : Box} (h : UsedB b) (m : Int) : UsedB (takeOut b m).1 := by
  unfold takeOut
  cases q : mailO b.mails m with
  | none => exact h
  | some k =>
    obtain ⟨h1, h2, _⟩ := mailO_some q
    simp only
    split
    · refine ⟨h.name, fun g z => ?_⟩
      rcases z with z | z | ⟨y, hy, z⟩
      · exact h.kn g (.inl z)
      · rcases gput_mem.1 z with e | e
        · exact h.kn g (.inr (.inr ⟨_, List.getElem_mem h1, by rw [e]; exact h2⟩))
        · exact h.kn g (.inr (.inl e))
      · exact h.kn g (.inr (.inr ⟨y, (sub_take_drop b.mails k).subset hy, z⟩))
    · exact h
theorem used_put {n : Nat} {s : Store} (h : Used n s) (g : Int) {m : Int} (hm : 100 ≤ m ∧ m ≤ 999) (f : Int) (x : List UInt8) : Used (n + 1) (putMail s g m f x).1 := by
  unfold putMail
  split
  · refine used_at h _ _ fun i hi _ => ?_
    split
    · exact used_stamped h _ (usedB_add (h.box _ (List.getElem_mem hi)) hm _ _ _ _)
    · exact h.mono (by omega)
  · exact h.mono (by omega)
theorem used_mark {n : Nat} {s : Store} (h : Used n s) (g m f : Int) : Used (n + 1) (markMail s g m f).1 := by
  unfold markMail
  rw [if_pos h.ok]
  refine used_at h _ _ fun i hi _ => ?_
  split
  · exact used_stamped h _ (usedB_flag (h.box _ (List.getElem_mem hi)) _ _ _ _)
  · exact h.mono (by omega)
theorem used_drop {n : Nat} {s : Store} (h : Used n s) (g m : Int) : Used (n + 1) (dropMail s g m).1 := by
  have hok := dropMail_ok h.ok g m
  unfold dropMail at hok ⊢
  rw [if_pos h.ok] at hok ⊢
  cases c : boxO s.boxes g with
  | none => rw [at_none c]; exact h.mono (by omega)
  | some i =>
    obtain ⟨hi, hb⟩ := boxO_some c
    rw [at_some c hi] at hok ⊢
    split
    · rename_i z
      rw [if_pos z] at hok
      refine ⟨hok, by have := h.time; simp only; omega, by have := h.gone; simp only; omega, fun x hx => ?_, h.kn⟩
      rcases List.mem_or_eq_of_mem_set hx with q | q
      · exact h.box x q
      · rw [q]; exact usedB_take (h.box _ (List.getElem_mem hi)) m
    · exact h.mono (by omega)
theorem used_name {n : Nat} {s : Store} (h : Used n s) (g : Int) {nm : List UInt8} (hn : nm ∈ names5) : Used (n + 1) (renameBox s g nm).1 := by
  unfold renameBox
  split
  · exact used_at h _ _ fun i hi _ => used_stamped h _ ⟨hn, fun g k => (h.box _ (List.getElem_mem hi)).kn g k⟩
  · exact h.mono (by omega)
theorem used_make {n : Nat} {s : Store} (h : Used n s) {g : Int} (hg : 100 ≤ g ∧ g ≤ 999) {nm : List UInt8} (hn : nm ∈ names5) : Used (n + 1) (makeBox s g nm).1 := by
  have hok := makeBox_ok h.ok g nm
  unfold makeBox at hok ⊢
  split
  · rename_i c
    rw [if_pos c] at hok
    split
    · rename_i z
      rw [if_pos z] at hok
      refine ⟨hok, by have := h.time; simp only [makeTo]; omega, by have := h.gone; simp only [makeTo]; omega, fun x hx => ?_, h.kn⟩
      simp only [makeTo, List.mem_append, List.mem_filter, List.mem_singleton] at hx
      rcases hx with (q | q) | q
      · exact h.box x q.1
      · rw [q]
        refine ⟨hn, fun g k => ?_⟩
        rcases k with k | k | ⟨m, hm, k⟩
        · rw [← k]; exact hg
        · simp [newBox] at k
        · simp [newBox] at hm
      · exact h.box x q.1
    · exact h.mono (by omega)
  · exact h.mono (by omega)
theorem used_lose {n : Nat} {s : Store} (h : Used n s) {g : Int} (hg : 100 ≤ g ∧ g ≤ 999) : Used (n + 1) (dropBox s g).1 := by
  have hok := dropBox_ok h.ok (g := g) ⟨by omega, by omega⟩
  unfold dropBox at hok ⊢
  split
  · rename_i c
    rw [if_pos c] at hok
    cases q : boxO s.boxes g with
    | none => rw [at_none q]; exact h.mono (by omega)
    | some i =>
      obtain ⟨hi, hbi⟩ := boxO_some q
      rw [at_some q hi] at hok ⊢
      have := gput_le s.gone g
      refine ⟨hok, by have := h.time; simp only; omega, by have := h.gone; simp only; omega, fun x hx => h.box x ((sub_take_drop s.boxes i).subset hx), fun x hx => ?_⟩
      rcases gput_mem.1 hx with e | e
      · rw [e]; exact hg
      · exact h.kn x e
  · exact h.mono (by omega)
theorem ok_store {s : Store} (h : storeOk s = true) : StoreT s := by
  have G := storeOk_iff.1 h
  have H := storeOk_good h
  exact ⟨⟨by have := G.len; omega, by have := G.goneL; omega, fun b hb => (H.boxes.good b hb).inB, by have := good_gids h; omega⟩, by have := G.time; omega, by have := G.time; omega⟩
/-- a right store; of one that is used from its beginning more is said -/
structure UsedW (p : Bool) (n : Nat) (s : Store) : Prop where
  ok : storeOk s = true
  use : p = true → Used n s
theorem UsedW.mono {p : Bool} {n m : Nat} {s : Store} (h : UsedW p n s) (hm : n ≤ m) : UsedW p m s := ⟨h.ok, fun e => (h.use e).mono hm⟩
theorem usedW_new {w : Int} (h1 : 1 ≤ w) (h2 : w ≤ 2) (p : Bool) : UsedW p 0 ⟨w, 0, [], []⟩ := ⟨(used_new h1 h2).ok, fun _ => used_new h1 h2⟩
theorem UsedW.box {p : Bool} {n : Nat} {s : Store} (h : UsedW p n s) {b : Box} (hb : b ∈ s.boxes) : (1 ≤ b.gid ∧ b.gid ≤ 9999) ∧ (p = true → 100 ≤ b.gid ∧ b.gid ≤ 999) :=
  ⟨((storeOk_iff.1 h.ok).box b hb).1.gid, fun e => ((h.use e).box b hb).kn _ (.inl rfl)⟩
end Mx

namespace Mx
open Go
variable {M : Nat → Option Body}
structure UzK (M : Nat → Option Body) : Prop where
  below : spec_l01Below.k M
  text : spec_l05Text.k M
  once : spec_l01Once.k M
  pick : spec_l01Pick.k M
  make : spec_MakeBox.k M
  put : spec_PutMail.k M
  mark : spec_MarkMail.k M
  drop : spec_DropMail.k M
  name : spec_RenameBox.k M
  lose : spec_DropBox.k M
/-- what is done: one of the seven -/
theorem uz_done (K : UzK M) (c : UzC) (hR : Bytes c.R) (k : Nat) (p : Bool) (m : Nat) (st : Store) (hs : UsedW p m st) (i ic : Nat) (q : Int) (hic : ic ≤ c.R.length) (hb1 : 100 ≤ c.base) (hb2 : c.base + i ≤ 999) (w : Bool) (v1 v2 : Nat) (box gid : Int) (x : Nat)
    (hbox : box = 0 ∨ (1 ≤ box ∧ box ≤ 9999) ∧ (p = true → 100 ≤ box ∧ box ≤ 999)) :
    ∃ (e : Bool) (st' : Store) (w' : Bool) (ic' : Nat) (q' : Int), UsedW p (m + 1) st' ∧ ic' ≤ c.R.length ∧ (box = 0 ∨ w = true → w' = true) ∧
      ∀ n, ∃ y, exC (run M) k spec_l07Use.br (uzS c ⟨i, st, w, v1, v2, ic, q, n⟩ (uyE box gid x)) = some (.normal, uzR c i st' w' ic' q' (uwE e box) y) := by
  have hg : 100 ≤ (c.base : Int) + (i : Int) ∧ (c.base : Int) + (i : Int) ≤ 999 := ⟨by omega, by omega⟩
  have n3 : ∀ s ∈ nm3, s ∈ names5 ∧ s.length ≤ 12 := by decide
  have n4 : ∀ s ∈ nm4, s ∈ names5 ∧ s.length ≤ 12 := by decide
  by_cases c0 : box = 0 ∨ x = 0
  · obtain ⟨nm, ic1, q1, hnm, hc1, h1⟩ := spec_l01Pick.says K.pick hR ic q hic nm3 (by decide) (by decide)
    have h3 := spec_MakeBox.says K.make st (ok_store hs.ok) ((c.base : Int) + (i : Int)) nm (by have := (n3 nm hnm).2; omega)
    refine ⟨false, _, true, ic1, q1, ⟨makeBox_ok hs.ok _ _, fun z => used_make (hs.use z) hg (n3 nm hnm).1⟩, hc1, fun _ => rfl, fun n => ?_⟩
    obtain ⟨v1', v2', n', h⟩ := uz_make c k ⟨i, st, w, v1, v2, ic, q, n⟩ box gid x ic1 _ q1 _ _ (by omega) (by omega) (by simp only; omega) h1 h3
    exact ⟨(v1', v2', n'), h⟩
  have d0 : ¬ box = 0 := fun e => c0 (.inl e)
  have d1 : ¬ (x : Int) = 0 := fun e => c0 (.inr (by omega))
  by_cases c6 : x < 6
  · obtain ⟨f, ic1, q1, hf, hc1, h1⟩ := spec_l01Below.says K.below hR ic q hic 8 (by omega) (by omega)
    simp only [Int.cast_ofNat_Int] at h1
    obtain ⟨tx, ic2, q2, htx, hc2, h2⟩ := spec_l05Text.says K.text hR ic1 q1 hc1
    have h3 := spec_PutMail.says K.put st (ok_store hs.ok) box ((c.base : Int) + (i : Int)) f tx
    refine ⟨false, _, true, ic2, q2, ⟨putMail_ok hs.ok _ _ _ _, fun z => used_put (hs.use z) box hg f tx⟩, hc2, fun _ => rfl, fun n => ?_⟩
    obtain ⟨v1', v2', n', h⟩ := uz_put c k ⟨i, st, w, v1, v2, ic, q, n⟩ box gid x f ic1 ic2 _ q1 q2 _ _ d0 d1 (by omega) (by omega) (by simp only; omega) h1 h2 h3
    exact ⟨(v1', v2', n'), h⟩
  by_cases c9 : x < 9
  · obtain ⟨f, ic1, q1, hf, hc1, h1⟩ := spec_l01Below.says K.below hR ic q hic 8 (by omega) (by omega)
    simp only [Int.cast_ofNat_Int] at h1
    have h3 := spec_MarkMail.says K.mark st (ok_store hs.ok) box gid f
    refine ⟨false, _, true, ic1, q1, ⟨markMail_ok hs.ok _ _ _, fun z => used_mark (hs.use z) box gid f⟩, hc1, fun _ => rfl, fun n => ?_⟩
    obtain ⟨v1', v2', n', h⟩ := uz_mark c k ⟨i, st, w, v1, v2, ic, q, n⟩ box gid x f ic1 q1 _ _ d0 d1 (by omega) (by omega) h1 h3
    exact ⟨(v1', v2', n'), h⟩
  by_cases c10 : x = 9
  · have h3 := spec_DropMail.says K.drop st (ok_store hs.ok) box gid
    refine ⟨false, _, true, ic, q, ⟨dropMail_ok hs.ok _ _, fun z => used_drop (hs.use z) box gid⟩, hic, fun _ => rfl, fun n => ?_⟩
    obtain ⟨v1', v2', n', h⟩ := uz_drop c k ⟨i, st, w, v1, v2, ic, q, n⟩ box gid x _ _ d0 (by omega) h3
    exact ⟨(v1', v2', n'), h⟩
  by_cases c11 : x = 10
  · obtain ⟨nm, ic1, q1, hnm, hc1, h1⟩ := spec_l01Pick.says K.pick hR ic q hic nm4 (by decide) (by decide)
    have h3 := spec_RenameBox.says K.name st (ok_store hs.ok) box nm (by have := (n4 nm hnm).2; omega)
    refine ⟨false, _, true, ic1, q1, ⟨renameBox_ok hs.ok _ _, fun z => used_name (hs.use z) box (n4 nm hnm).1⟩, hc1, fun _ => rfl, fun n => ?_⟩
    obtain ⟨v1', v2', n', h⟩ := uz_name c k ⟨i, st, w, v1, v2, ic, q, n⟩ box gid x ic1 _ q1 _ _ d0 (by omega) h1 h3
    exact ⟨(v1', v2', n'), h⟩
  obtain ⟨z, ic1, q1, hc1, h1⟩ := spec_l01Once.says K.once hR ic q hic 3 (by omega) (by omega)
  simp only [Int.cast_ofNat_Int] at h1
  cases z
  · refine ⟨true, st, w, ic1, q1, hs.mono (by omega), hc1, fun h => h.resolve_left d0, fun n => ?_⟩
    obtain ⟨n', h⟩ := uz_stay c k ⟨i, st, w, v1, v2, ic, q, n⟩ box gid x ic1 q1 d0 (by omega) h1
    exact ⟨(v1, v2, n'), h⟩
  · have h3 := spec_DropBox.says K.lose st (ok_store hs.ok) box
    refine ⟨false, _, true, ic1, q1, ⟨dropBox_ok hs.ok (hbox.resolve_left d0).1, fun z => used_lose (hs.use z) ((hbox.resolve_left d0).2 z)⟩, hc1, fun _ => rfl, fun n => ?_⟩
    obtain ⟨v1', v2', n', h⟩ := uz_lose c k ⟨i, st, w, v1, v2, ic, q, n⟩ box gid x ic1 q1 _ _ d0 (by omega) h1 h3
    exact ⟨(v1', v2', n'), h⟩
structure UzI (c : UzC) (p : Bool) (m : Nat) (s0 : Store) (s : UzS) : Prop where
  i : s.i ≤ c.N
  use : UsedW p (m + s.i) s.s
  ic : s.ic ≤ c.R.length
  w : s0.boxes ≠ [] ∨ (s.i = 0 ∧ s.s = s0) ∨ s.w = true
theorem uz_round (K : UzK M) (c : UzC) (hR : Bytes c.R) (k : Nat) (p : Bool) (m : Nat) (s0 : Store) (hb1 : 100 ≤ c.base) (hb2 : c.base + c.N ≤ 1000) (s : UzS) (hs : UzI c p m s0 s) (hi : s.i < c.N) :
    ∃ s', exC (run M) k spec_l07Use.l0 (uzS c s []) = some (.normal, uzS c s' []) ∧ UzI c p m s0 s' ∧ s'.i = s.i + 1 := by
  have fin : ∀ (box : Int) (e : Bool) (st' : Store) (w' : Bool) (ic' : Nat) (q' : Int), UsedW p (m + s.i + 1) st' → ic' ≤ c.R.length → (s0.boxes ≠ [] ∨ w' = true) →
      (∀ n, ∃ y, exC (run M) k spec_l07Use.hd (uzS c { s with n := n } uxE) = some (.normal, uzR c s.i st' w' ic' q' (uwE e box) y)) →
      ∃ s', exC (run M) k spec_l07Use.l0 (uzS c s []) = some (.normal, uzS c s' []) ∧ UzI c p m s0 s' ∧ s'.i = s.i + 1 := by
    intro box e st' w' ic' q' hu hc hw hX
    obtain ⟨y, hy⟩ := uz_l0 c k s st' w' ic' q' e box hi (by omega) hX
    exact ⟨⟨s.i + 1, st', w', y.1, y.2.1, ic', q', y.2.2⟩, hy, ⟨by simp only; omega, hu, hc, hw.imp_right .inr⟩, rfl⟩
  by_cases hbx : s.s.boxes = []
  · obtain ⟨x, ic1, q1, hx, hc1, h1⟩ := spec_l01Below.says K.below hR s.ic s.q hs.ic 12 (by omega) (by omega)
    simp only [Int.cast_ofNat_Int] at h1
    obtain ⟨e, st', w', ic', q', hu, hc', hw, hd⟩ := uz_done K c hR k p (m + s.i) s.s hs.use s.i ic1 q1 hc1 hb1 (by omega) s.w s.v1 s.v2 0 0 x (.inl rfl)
    obtain ⟨Y, hY⟩ := Classical.skolem.1 hd
    exact fin 0 e st' w' ic' q' hu hc' (.inr (hw (.inl rfl))) fun n => by
      obtain ⟨n1, h⟩ := uz_hd0 c k { s with n := n } x ic1 q1 hbx h1 _ hY
      exact ⟨_, h⟩
  have hne : s0.boxes ≠ [] ∨ s.w = true := by
    rcases hs.w with h | ⟨_, h⟩ | h
    · exact .inl h
    · left; rw [← h]; exact hbx
    · exact .inr h
  have hl : 0 < s.s.boxes.length := List.length_pos_iff.2 hbx
  have G := storeOk_iff.1 hs.use.ok
  obtain ⟨j, ic0, q0, hj, hc0, h0⟩ := spec_l01Below.says K.below hR s.ic s.q hs.ic s.s.boxes.length hl (by have := G.len; omega)
  have hbox := hs.use.box (List.getElem_mem hj)
  by_cases hml : s.s.boxes[j].mails = []
  · obtain ⟨x, ic1, q1, hx, hc1, h1⟩ := spec_l01Below.says K.below hR ic0 q0 hc0 12 (by omega) (by omega)
    simp only [Int.cast_ofNat_Int] at h1
    obtain ⟨e, st', w', ic', q', hu, hc', hw, hd⟩ := uz_done K c hR k p (m + s.i) s.s hs.use s.i ic1 q1 hc1 hb1 (by omega) s.w s.v1 s.v2 s.s.boxes[j].gid 0 x (.inr hbox)
    obtain ⟨Y, hY⟩ := Classical.skolem.1 hd
    exact fin _ e st' w' ic' q' hu hc' (hne.imp_right fun h => hw (.inr h)) fun n => by
      obtain ⟨n1, h⟩ := uz_hd1 c k { s with n := n } x j ic0 ic1 q0 q1 hj hml h0 h1 _ hY
      exact ⟨_, h⟩
  · have hl2 : 0 < s.s.boxes[j].mails.length := List.length_pos_iff.2 hml
    have GB := (G.box _ (List.getElem_mem hj)).1
    obtain ⟨l, ic2, q2, hl, hc2, h2⟩ := spec_l01Below.says K.below hR ic0 q0 hc0 s.s.boxes[j].mails.length hl2 (by have := GB.len; omega)
    obtain ⟨x, ic1, q1, hx, hc1, h1⟩ := spec_l01Below.says K.below hR ic2 q2 hc2 12 (by omega) (by omega)
    simp only [Int.cast_ofNat_Int] at h1
    obtain ⟨e, st', w', ic', q', hu, hc', hw, hd⟩ := uz_done K c hR k p (m + s.i) s.s hs.use s.i ic1 q1 hc1 hb1 (by omega) s.w s.v1 s.v2 s.s.boxes[j].gid (s.s.boxes[j].mails[l]).gid x (.inr hbox)
    obtain ⟨Y, hY⟩ := Classical.skolem.1 hd
    exact fin _ e st' w' ic' q' hu hc' (hne.imp_right fun h => hw (.inr h)) fun n => by
      obtain ⟨n1, h⟩ := uz_hd2 c k { s with n := n } x j l ic0 ic1 ic2 q0 q1 q2 hj hl h0 h2 h1 _ hY
      exact ⟨_, h⟩
theorem uz_loop (K : UzK M) (c : UzC) (hR : Bytes c.R) (k : Nat) (p : Bool) (m : Nat) (s0 : Store) (hb1 : 100 ≤ c.base) (hb2 : c.base + c.N ≤ 1000) (s : UzS) (hs : UzI c p m s0 s) (hk : c.N < k) :
    ∃ s', loopN (exC (run M) k spec_l07Use.l0) k (uzS c s []) = some (.exit 0, uzS c s' [(16, .c (.bool false))]) ∧ UzI c p m s0 s' ∧ s'.i = c.N := by
  obtain ⟨r, hr, s', rfl, hI⟩ := loop_ex (f := exC (run M) k spec_l07Use.l0) (fun s => uzS c s []) (UzI c p m s0) (fun s => c.N - s.i) (fun r => ∃ s', r = (.exit 0, uzS c s' [(16, .c (.bool false))]) ∧ UzI c p m s0 s' ∧ s'.i = c.N)
    (fun s hs => by
      by_cases hi : s.i < c.N
      · left
        obtain ⟨s', h1, h2, h3⟩ := uz_round K c hR k p m s0 hb1 hb2 s hs hi
        exact ⟨s', h1, h2, by omega⟩
      · right
        obtain ⟨n', h⟩ := uz_end (M := M) c k s hi
        have := hs.i
        exact ⟨_, h, by simp, _, rfl, ⟨hs.i, hs.use, hs.ic, hs.w⟩, by simp only; omega⟩) k s hs (by omega)
  exact ⟨s', hr, hI⟩
abbrev encStoreW (w : Bool) (s : Store) : List T := [I s.who, I s.time, .sl w 7 (s.boxes.map encBox), .sl w 1 (irow s.gone)]
set_option maxHeartbeats 1000000 in
theorem spec_l07Use.says (h : spec_l07Use.k M) {R : List (List T)} (hR : Bytes R) (i : Nat) (q : Int) (hi : i ≤ R.length) (p : Bool) (m : Nat) (s : Store) (hs : UsedW p m s) (N base : Nat) (h1 : 100 ≤ base) (h2 : base + N ≤ 1000) :
    ∃ (s' : Store) (w : Bool) (i' : Nat) (q' : Int), UsedW p (m + N) s' ∧ (s.boxes = [] → 0 < N → w = true) ∧ i' ≤ R.length ∧
      run M 244 [.c (.ptr 0 0 0 0), .a (encStore s), .c (I N), .c (I base)] [curD R i q] = some (.a (encStoreW w s'), [curD R i' q']) := by
  obtain ⟨h0, kb, kt, ko, kp, km, kpu, kma, kdm, kn, kdb⟩ := h
  obtain ⟨⟨i', s', w, v1, v2, ic, q', n⟩, hr, hI, hi'⟩ := uz_loop ⟨kb, kt, ko, kp, km, kpu, kma, kdm, kn, kdb⟩ ⟨R, 2000000, 2000016, N, base⟩ hR (N + 1) p m s h1 h2 ⟨0, s, false, 0, 0, i, q, 2000048⟩ ⟨Nat.zero_le _, hs, hi, .inr (.inl ⟨rfl, rfl⟩)⟩ (by simp)
  obtain ⟨_, hu, hc, hw⟩ := hI
  simp only at hi' hu hc hw
  subst hi'
  refine ⟨s', w, ic, q', hu, fun e hN => ?_, hc, run_code (b := spec_l07Use.m) h0 ⟨i' + 1, ?_⟩⟩
  · rcases hw with h | ⟨h, _⟩ | h
    · exact (h e).elim
    · omega
    · exact h
  have e0 : ((0 : Nat) : Int) = 0 := rfl
  have e7 : (s'.boxes.map encBox).length = s'.boxes.length := by simp
  have e8 := irow_length s'.gone
  have m1 : (s'.boxes.map encBox).take s'.boxes.length = s'.boxes.map encBox := List.take_of_length_le (by omega)
  have m2 : (irow s'.gone).take s'.gone.length = irow s'.gone := List.take_of_length_le (by omega)
  simp only [uzS, uzT, uzO, uzB, uzX, e0] at hr
  simp only [encStore, encStoreW, boxes, ints] at hr ⊢
  generalize s'.boxes.map encBox = rb' at *
  generalize irow s'.gone = rg' at *
  generalize s.boxes.map encBox = rb at *
  generalize irow s.gone = rg at *
  cases w
  · simp only [Bool.false_eq_true, if_false] at hr
    simp (maxSteps := 1000000) [exB, spec_l07Use.m, spec_l07Use.b, List.range_succ, bs_get, setAt, hr, e7, e8, m1, m2]
  · simp only [Bool.false_eq_true, if_false, if_true] at hr
    simp (maxSteps := 1000000) [exB, spec_l07Use.m, spec_l07Use.b, List.range_succ, bs_get, setAt, hr, e7, e8, m1, m2]
end Mx

namespace Mx
open Go
variable {M : Nat → Option Body}
theorem spec_StoreNew.says (h : spec_StoreNew.k M) (w : Int) : run M 113 [.c (I w)] [] = some (.a [I w, I 0, .sl true 7 [], .sl true 1 []], []) := by
  refine run_code (b := spec_StoreNew.m) h ⟨0, ?_⟩
  simp (maxSteps := 1000000) [exB, spec_StoreNew.m, spec_StoreNew.b, List.range_succ, bs_get, setAt]
set_option maxHeartbeats 1000000 in
theorem spec_l07Store.says (h : spec_l07Store.k M) {R : List (List T)} (hR : Bytes R) (i : Nat) (q : Int) (hi : i ≤ R.length) :
    ∃ (s : Store) (i' : Nat) (q' : Int), Used 13 s ∧ i' ≤ R.length ∧ run M 188 [.c (.ptr 0 0 0 0)] [curD R i q] = some (.a (encStoreO s), [curD R i' q']) := by
  obtain ⟨h0, kn, kb, ku⟩ := h
  obtain ⟨x, i1, q1, hx, hc1, h1⟩ := spec_l01Below.says kb hR i q hi 12 (by omega) (by omega)
  obtain ⟨y, i2, q2, hy, hc2, h2⟩ := spec_l01Below.says kb hR i1 q1 hc1 2 (by omega) (by omega)
  simp only [Int.cast_ofNat_Int] at h1 h2
  have h3 := spec_StoreNew.says kn ((1 + y : Nat) : Int)
  obtain ⟨s, w, i3, q3, hu, hw, hc3, h4⟩ := spec_l07Use.says ku hR i2 q2 hc2 true 0 ⟨((1 + y : Nat) : Int), 0, [], []⟩ (usedW_new (by omega) (by omega) true) (2 + x) 100 (by omega) (by omega)
  have hw := hw rfl (by omega)
  subst hw
  refine ⟨s, i3, q3, (hu.use rfl).mono (by omega), hc3, run_code (b := spec_l07Store.m) h0 ⟨0, ?_⟩⟩
  have e1 : IntKind.i64.wrap (2 + (x : Int)) = ((2 + x : Nat) : Int) := wrap_i64 (by omega) (by omega)
  have e2 : IntKind.i64.wrap (1 + (y : Int)) = ((1 + y : Nat) : Int) := wrap_i64 (by omega) (by omega)
  simp only [encStore, encStoreW, encStoreO, boxes, ints, List.map_nil, irow_nil, Int.cast_ofNat_Int] at h4 ⊢
  generalize ((1 + y : Nat) : Int) = y1 at *
  generalize ((2 + x : Nat) : Int) = x1 at *
  have e7 : (s.boxes.map encBox).length = s.boxes.length := by simp
  have e8 := irow_length s.gone
  generalize s.boxes.map encBox = rb' at *
  generalize irow s.gone = rg' at *
  simp (maxSteps := 1000000) [exB, spec_l07Store.m, spec_l07Store.b, List.range_succ, bs_get, setAt, h1, h2, h3, h4, e1, e2, e7, e8, List.take_of_length_le]
/-- a box as it is drawn at all -/
structure WildB (b : Box) : Prop where
  in_ : BoxIn b
  m : b.mails.length ≤ 10
  g : b.gone.length ≤ 50
structure WildS (s : Store) : Prop where
  t : StoreT s
  b : s.boxes.length ≤ 5
  g : s.gone.length ≤ 21
  box : ∀ b ∈ s.boxes, WildB b
theorem wild_of {s : Store} (t : -1000000 ≤ s.time ∧ s.time ≤ 1000000) (b : s.boxes.length ≤ 5) (g : s.gone.length ≤ 21) (box : ∀ b ∈ s.boxes, WildB b) : WildS s := by
  have key : ∀ l : List Box, (∀ x ∈ l, x.mails.length ≤ 10) → (l.flatMap gidsOf).length ≤ 10 * l.length := by
    intro l
    induction l with
    | nil => intro _; simp
    | cons x l ih =>
      intro h
      have h1 := ih fun y hy => h y (List.mem_cons_of_mem _ hy)
      have h2 := h x (List.mem_cons_self ..)
      simp only [List.flatMap_cons, List.length_append, gidsOf, List.length_map, List.length_cons] at h1 ⊢
      omega
  have := key s.boxes fun x hx => (box x hx).m
  exact ⟨⟨⟨by omega, by omega, fun x hx => (box x hx).in_, by omega⟩, by omega, by omega⟩, b, g, box⟩
theorem Good.wild {b : Box} (h : Good b) : WildB b := ⟨h.inB, h.len, by have := h.goneL; omega⟩
theorem Used.wild {n : Nat} {s : Store} (h : Used n s) : WildS s := by
  have G := storeOk_iff.1 h.ok
  exact wild_of ⟨by have := G.time; omega, by have := G.time; omega⟩ G.len (by have := G.goneL; omega) fun b hb => (G.box b hb).1.wild
set_option maxHeartbeats 8000000 in
theorem spec_l07Any.says (h : spec_l07Any.k M) {R : List (List T)} (hR : Bytes R) (i : Nat) (q : Int) (hi : i ≤ R.length) :
    ∃ (s : Store) (i' : Nat) (q' : Int), WildS s ∧ i' ≤ R.length ∧ run M 443 [.c (.ptr 0 0 0 0)] [curD R i q] = some (.a (encStoreO s), [curD R i' q']) := by
  obtain ⟨h0, kb, ka, ks, kc⟩ := h
  obtain ⟨x, i1, q1, hx, hc1, h1⟩ := spec_l01Below.says kb hR i q hi 14 (by omega) (by omega)
  obtain ⟨y, i2, q2, hy, hc2, h2⟩ := spec_l01Below.says kb hR i1 q1 hc1 60 (by omega) (by omega)
  simp only [Int.cast_ofNat_Int] at h1 h2
  obtain ⟨s, i3, q3, hu, hc3, h3⟩ := spec_l07Store.says ks hR i2 q2 hc2
  have hW := hu.wild
  have h4 := spec_l07Copy.says kc s hW.t.in_
  have G := storeOk_iff.1 hu.ok
  have hbl := hW.b
  have e7 : (s.boxes.map encBox).length = s.boxes.length := by simp
  have e8 := irow_length s.gone
  have m1 : (s.boxes.map encBox).take s.boxes.length = s.boxes.map encBox := List.take_of_length_le (by omega)
  have m2 : (irow s.gone).take s.gone.length = irow s.gone := List.take_of_length_le (by omega)
  by_cases c0 : x = 0
  · have d0 : (x : Int) = 0 := by omega
    obtain ⟨z, hz, ez⟩ := tmod_small y 4 (by omega)
    simp only [Int.cast_ofNat_Int] at ez
    refine ⟨{ s with who := z }, i3, q3, ⟨⟨⟨hW.t.in_.b, hW.t.in_.g, hW.t.in_.i, hW.t.in_.s⟩, hW.t.time⟩, hW.b, hW.g, hW.box⟩, hc3, run_code (b := spec_l07Any.m) h0 ⟨0, ?_⟩⟩
    simp only [encStore, encStoreO, boxes, ints] at h3 h4 ⊢
    generalize s.boxes.map encBox = rb at *
    generalize irow s.gone = rg at *
    simp (maxSteps := 1000000) [exB, spec_l07Any.m, spec_l07Any.b, List.range_succ, bs_get, setAt, h1, h2, h3, h4, c0, d0, e7, e8, m1, m2, ez]
  have d0 : ¬ (x : Int) = 0 := by omega
  by_cases c1 : x = 1
  · have d1 : (x : Int) = 1 := by omega
    obtain ⟨z, hz, ez⟩ := tmod_small y 4 (by omega)
    simp only [Int.cast_ofNat_Int] at ez
    have hz4 : z = 0 ∨ z = 1 ∨ z = 2 ∨ z = 3 := by omega
    have key : ∀ t : Int, -1000000 ≤ t ∧ t ≤ 1000000 → ([[I (-1)], [I 0], [I 100000], [I 100001]] : List (List T))[z]? = some [I t] →
        ∃ (s : Store) (i' : Nat) (q' : Int), WildS s ∧ i' ≤ R.length ∧ run M 443 [.c (.ptr 0 0 0 0)] [curD R i q] = some (.a (encStoreO s), [curD R i' q']) := by
      intro t ht hg
      have hg2 : ∀ hh, ([[I (-1)], [I 0], [I 100000], [I 100001]] : List (List T))[z]'hh = [I t] := fun hh => by
        rw [List.getElem?_eq_getElem hh] at hg; exact Option.some.inj hg
      refine ⟨{ s with time := t }, i3, q3, wild_of ht hW.b hW.g hW.box, hc3, run_code (b := spec_l07Any.m) h0 ⟨0, ?_⟩⟩
      simp only [encStore, encStoreO, boxes, ints] at h3 h4 ⊢
      generalize s.boxes.map encBox = rb at *
      generalize irow s.gone = rg at *
      simp (maxSteps := 1000000) [exB, spec_l07Any.m, spec_l07Any.b, List.range_succ, bs_get, setAt, h1, h2, h3, h4, c0, d0, c1, d1, e7, e8, m1, m2, ez, hz, hg, hg2]
    rcases hz4 with rfl | rfl | rfl | rfl
    · exact key (-1) (by omega) rfl
    · exact key 0 (by omega) rfl
    · exact key 100000 (by omega) rfl
    · exact key 100001 (by omega) rfl
  have d1 : ¬ (x : Int) = 1 := by omega
  by_cases c2 : x = 2
  · have d2 : (x : Int) = 2 := by omega
    by_cases hl : s.boxes = []
    · refine ⟨s, i3, q3, hW, hc3, run_code (b := spec_l07Any.m) h0 ⟨0, ?_⟩⟩
      have hl0 : ¬ 0 < s.boxes.length := by rw [hl]; simp
      have hl1 : s.boxes.length = 0 := by omega
      simp only [encStore, encStoreO, boxes, ints] at h3 h4 ⊢
      generalize s.boxes.length = nb at *
      subst hl1
      generalize s.boxes.map encBox = rb at *
      generalize irow s.gone = rg at *
      simp (maxSteps := 1000000) [exB, spec_l07Any.m, spec_l07Any.b, List.range_succ, bs_get, setAt, h1, h2, h3, h4, c0, d0, c1, d1, c2, d2, e7, e8, m1, m2]
    · have hl0 : 0 < s.boxes.length := List.length_pos_iff.2 hl
      obtain ⟨b, i4, q4, ⟨⟨hb1, _⟩, hb2, hb3, _, _⟩, hc4, h5⟩ := spec_l06Any.wild ka hR i3 q3 hc3
      refine ⟨{ s with boxes := s.boxes.set 0 b }, i4, q4, ?_, hc4, run_code (b := spec_l07Any.m) h0 ⟨0, ?_⟩⟩
      · refine wild_of ⟨by have := hW.t.time; have := G.time; simp only; omega, by have := G.time; simp only; omega⟩ (by simpa using hW.b) hW.g fun y hy => ?_
        rcases List.mem_or_eq_of_mem_set hy with z | z
        · exact hW.box y z
        · rw [z]; exact ⟨hb1, hb2, hb3⟩
      have e9 : (s.boxes.set 0 b).map encBox = (s.boxes.map encBox).set 0 (encBox b) := by rw [List.map_set]
      have a1 : ∀ hh, (s.boxes.map encBox)[0]'hh = encBox s.boxes[0] := by intro hh; simp
      have e10 : ((s.boxes.map encBox).set 0 (encBox b)).length = s.boxes.length := by simp
      simp only [encStore, encStoreO, boxes, ints, e9] at h3 h4 ⊢
      simp only [encBox, encBoxO, mails, ints] at h5 a1 e10 ⊢
      have e11 : (b.mails.map encMail).length = b.mails.length := by simp
      have e12 := irow_length b.gone
      generalize b.mails.map encMail = rm at *
      generalize irow b.gone = rbg at *
      generalize s.boxes[0].mails.map encMail = rm0 at *
      generalize irow s.boxes[0].gone = rbg0 at *
      generalize s.boxes.map encBox = rb at *
      generalize irow s.gone = rg at *
      simp (maxSteps := 1000000) [exB, spec_l07Any.m, spec_l07Any.b, List.range_succ, bs_get, setAt, h1, h2, h3, h4, h5, c0, d0, c1, d1, c2, d2, hl0, e7, e8, e10, e11, e12, m1, m2, a1, List.take_of_length_le]
  have d2 : ¬ (x : Int) = 2 := by omega
  by_cases c3 : x = 3
  · have d3 : (x : Int) = 3 := by omega
    have hgl := hW.g
    have hgl2 := G.goneL
    refine ⟨{ s with gone := s.gone ++ [(y : Int)] }, i3, q3, wild_of ⟨by have := G.time; simp only; omega, by have := G.time; simp only; omega⟩ hW.b (by simp; omega) hW.box, hc3, run_code (b := spec_l07Any.m) h0 ⟨0, ?_⟩⟩
    have e9 : s.gone.length + 1 ≤ 4294967296 := by omega
    simp only [encStore, encStoreO, boxes, ints, irow_snoc] at h3 h4 ⊢
    generalize s.boxes.map encBox = rb at *
    generalize irow s.gone = rg at *
    simp (maxSteps := 1000000) [exB, spec_l07Any.m, spec_l07Any.b, List.range_succ, bs_get, setAt, h1, h2, h3, h4, c0, d0, c1, d1, c2, d2, c3, d3, e7, e8, e9, m1, m2, List.take_of_length_le]
  have d3 : ¬ (x : Int) = 3 := by omega
  by_cases c4 : x = 4
  · have d4 : (x : Int) = 4 := by omega
    by_cases hl : 1 < s.boxes.length
    · have hl0 : 0 < s.boxes.length := by omega
      have hl2 : (1 : Int) < s.boxes.length := by omega
      have hWb := hW.box _ (List.getElem_mem hl)
      have hWa := hW.box _ (List.getElem_mem hl0)
      refine ⟨{ s with boxes := s.boxes.set 1 { s.boxes[1] with name := s.boxes[0].name } }, i3, q3, ?_, hc3, run_code (b := spec_l07Any.m) h0 ⟨0, ?_⟩⟩
      · refine wild_of ⟨by have := G.time; simp only; omega, by have := G.time; simp only; omega⟩ (by simpa using hW.b) hW.g fun y hy => ?_
        rcases List.mem_or_eq_of_mem_set hy with z | z
        · exact hW.box y z
        · rw [z]; exact ⟨⟨hWb.in_.m, hWb.in_.g, hWa.in_.n, hWb.in_.f⟩, hWb.m, hWb.g⟩
      have e9 : (s.boxes.set 1 { s.boxes[1] with name := s.boxes[0].name }).map encBox = (s.boxes.map encBox).set 1 (encBox { s.boxes[1] with name := s.boxes[0].name }) := by rw [List.map_set]
      have a1 : ∀ hh, (s.boxes.map encBox)[0]'hh = encBox s.boxes[0] := by intro hh; simp
      have a2 : ∀ hh, (s.boxes.map encBox)[1]'hh = encBox s.boxes[1] := by intro hh; simp
      have e10 : ∀ z, ((s.boxes.map encBox).set 1 z).length = s.boxes.length := by intro z; simp
      simp only [encStore, encStoreO, boxes, ints, e9] at h3 h4 ⊢
      simp only [encBox, mails, ints] at a1 a2 ⊢
      generalize s.boxes[1].mails.map encMail = rm at *
      generalize irow s.boxes[1].gone = rbg at *
      generalize s.boxes[0].mails.map encMail = rm0 at *
      generalize irow s.boxes[0].gone = rbg0 at *
      generalize s.boxes.map encBox = rb at *
      generalize irow s.gone = rg at *
      simp (maxSteps := 1000000) [exB, spec_l07Any.m, spec_l07Any.b, List.range_succ, bs_get, setAt, h1, h2, h3, h4, c0, d0, c1, d1, c2, d2, c3, d3, c4, d4, hl, hl0, hl2, e7, e8, e10, m1, m2, a1, a2, List.take_of_length_le]
    · have hl2 : ¬ (1 : Int) < s.boxes.length := by omega
      refine ⟨s, i3, q3, hW, hc3, run_code (b := spec_l07Any.m) h0 ⟨0, ?_⟩⟩
      simp only [encStore, encStoreO, boxes, ints] at h3 h4 ⊢
      generalize s.boxes.map encBox = rb at *
      generalize irow s.gone = rg at *
      simp (maxSteps := 1000000) [exB, spec_l07Any.m, spec_l07Any.b, List.range_succ, bs_get, setAt, h1, h2, h3, h4, c0, d0, c1, d1, c2, d2, c3, d3, c4, d4, hl, hl2, e7, e8, m1, m2]
  have d4 : ¬ (x : Int) = 4 := by omega
  refine ⟨s, i3, q3, hW, hc3, run_code (b := spec_l07Any.m) h0 ⟨0, ?_⟩⟩
  simp only [encStore, encStoreO, boxes, ints] at h3 h4 ⊢
  generalize s.boxes.map encBox = rb at *
  generalize irow s.gone = rg at *
  simp (maxSteps := 1000000) [exB, spec_l07Any.m, spec_l07Any.b, List.range_succ, bs_get, setAt, h1, h2, h3, h4, c0, d0, c1, d1, c2, d2, c3, d3, c4, d4, e7, e8, m1, m2]
end Mx

namespace Mx
open Go
def gb (l : List Box) (g : Int) : List Int := match boxIn l g with | some x => x.gone | none => []
/-- the boxes that two lists come to, ahead of names and of mails that are there twice -/
def raw (a b : List Box) (G : List Int) : List Box := ((joinGone (gidsB a) (gidsB b)).filter fun g => !decide (g ∈ G)).map (joinB a b)
theorem ren_fold_at : ∀ (l acc : List Box) (i : Nat) (h : i < l.length), ∃ nm, (l.foldl renStep acc)[acc.length + i]? = some { l[i] with name := nm }
  | x :: l, acc, i, h => by
    rw [List.foldl_cons]
    have hs : renStep acc x = acc ++ [renOne acc x] := rfl
    cases i with
    | zero =>
      have hp : ∀ (l acc : List Box) (k : Nat), k < acc.length → (l.foldl renStep acc)[k]? = acc[k]? := by
        intro l
        induction l with
        | nil => intro acc k _; rfl
        | cons y l ih =>
          intro acc k hk
          rw [List.foldl_cons, ih (renStep acc y) k (by rw [renStep_eq]; simp; omega), renStep_eq, List.getElem?_append_left hk]
      rw [hp l _ _ (by rw [hs]; simp), hs]
      refine ⟨(renOne acc x).name, ?_⟩
      simp only [Nat.add_zero, List.getElem?_append_right (Nat.le_refl _), Nat.sub_self, List.getElem?_cons_zero, List.getElem_cons_zero]
      unfold renOne; split <;> rfl
    | succ i =>
      have := ren_fold_at l (renStep acc x) i (by simpa using h)
      rw [hs] at this
      simpa [hs, Nat.add_assoc, Nat.add_comm 1] using this
theorem ren_at (l : List Box) (i : Nat) (h : i < l.length) : ∃ nm, (ren l)[i]'(by rw [ren_len]; exact h) = { l[i] with name := nm } := by
  obtain ⟨nm, e⟩ := ren_fold_at l [] i h
  refine ⟨nm, ?_⟩
  simp only [List.length_nil, Nat.zero_add] at e
  have e2 : (ren l)[i]? = some { l[i] with name := nm } := e
  rw [List.getElem?_eq_getElem (by rw [ren_len]; exact h)] at e2
  exact Option.some.inj e2
theorem seenI_mem {L : List Box} {i : Nat} {m : Int} : m ∈ seenI L i ↔ ∃ k, ∃ h : k < L.length, k < i ∧ m ∈ gids L[k].mails := by
  unfold seenI
  rw [List.mem_flatMap]
  constructor
  · rintro ⟨b, hb, hm⟩
    obtain ⟨k, hk, rfl⟩ := List.getElem_of_mem hb
    simp only [List.length_take] at hk
    rw [List.getElem_take] at hm
    exact ⟨k, by omega, by omega, hm⟩
  · rintro ⟨k, hk, hki, hm⟩
    refine ⟨L[k], ?_, hm⟩
    have : k < (L.take i).length := by simp; omega
    have e : (L.take i)[k] = L[k] := by rw [List.getElem_take]
    rw [← e]; exact List.getElem_mem this
theorem ded_gids {L : List Box} {i : Nat} (h : i < L.length) {m : Int} : m ∈ gids ((ded L)[i]'(by simpa [ded] using h)).mails ↔ m ∈ gids L[i].mails ∧ ¬ m ∈ seenI L i := by
  simp only [ded, List.getElem_mapIdx, dedOne, gids, List.mem_map, List.mem_filter, Bool.not_eq_true', decide_eq_false_iff_not]
  constructor
  · rintro ⟨y, ⟨h1, h2⟩, rfl⟩; exact ⟨⟨y, h1, rfl⟩, h2⟩
  · rintro ⟨⟨y, h1, rfl⟩, h2⟩; exact ⟨y, ⟨h1, h2⟩, rfl⟩
/-- a joined store's boxes, one by one -/
structure Come (a b : List Box) (G : List Int) (L : List Box) : Prop where
  len : L.length = (raw a b G).length
  at_ : ∀ i (h : i < L.length), ∃ hr : i < (raw a b G).length, L[i].gid = (raw a b G)[i].gid ∧ L[i].gone = (raw a b G)[i].gone ∧
    ∀ m, m ∈ gids L[i].mails ↔ m ∈ gids (raw a b G)[i].mails ∧ ¬ m ∈ seenI (raw a b G) i
  nd : (∀ x ∈ raw a b G, (gids x.mails).Nodup) → ∀ i (h : i < L.length), (gids L[i].mails).Nodup
theorem come (a b : List Box) (G : List Int) : Come a b G (ded (joinBoxesS a b G)) := by
  have hl : (ded (joinBoxesS a b G)).length = (raw a b G).length := by simp only [ded, List.length_mapIdx]; exact ren_len _
  have hS : ∀ i (h : i < (raw a b G).length), ∃ nm, (joinBoxesS a b G)[i]'(by rw [show (joinBoxesS a b G).length = _ from ren_len _]; exact h) = { (raw a b G)[i] with name := nm } := fun i h => ren_at (raw a b G) i h
  have hlS : (joinBoxesS a b G).length = (raw a b G).length := ren_len _
  have hseen : ∀ i m, m ∈ seenI (joinBoxesS a b G) i ↔ m ∈ seenI (raw a b G) i := by
    intro i m
    rw [seenI_mem, seenI_mem]
    constructor
    · rintro ⟨k, h1, h2, h3⟩
      obtain ⟨nm, e⟩ := hS k (by omega)
      rw [e] at h3
      exact ⟨k, by omega, h2, h3⟩
    · rintro ⟨k, h1, h2, h3⟩
      obtain ⟨nm, e⟩ := hS k h1
      exact ⟨k, by omega, h2, by rw [e]; exact h3⟩
  refine ⟨hl, fun i h => ?_, fun hn i h => ?_⟩
  · have hr : i < (raw a b G).length := by omega
    obtain ⟨nm, e⟩ := hS i hr
    refine ⟨hr, ?_, ?_, fun m => ?_⟩
    · simp only [ded, List.getElem_mapIdx, dedOne, e]
    · simp only [ded, List.getElem_mapIdx, dedOne, e]
    · rw [ded_gids (by omega), hseen, e]
  · have hr : i < (raw a b G).length := by omega
    obtain ⟨nm, e⟩ := hS i hr
    have := hn _ (List.getElem_mem hr)
    simp only [ded, List.getElem_mapIdx, dedOne, e, gids] at this ⊢
    exact this.sublist (List.Sublist.map _ List.filter_sublist)
end Mx
