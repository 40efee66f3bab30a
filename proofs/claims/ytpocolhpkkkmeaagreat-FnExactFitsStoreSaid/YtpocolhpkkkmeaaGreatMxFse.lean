/-
  What more of the functions compute, each by a small evaluation; no condition beyond what each says.
-/
import Derived.Test.YtpocolhpkkkmeaaGreatMxFsd
set_option linter.unusedSimpArgs false
set_option linter.unusedVariables false
namespace Mx
open Go
variable {M : Nat → Option Body}
/-- what is asked of two boxes that are joined -/
structure Joins (a b : Box) : Prop where
  ia : BoxIn a
  ib : BoxIn b
  ga : a.gone.length ≤ 500000
  gb : b.gone.length ≤ 500000
  na : (gids a.mails).Nodup
  nb : (gids b.mails).Nodup
  all : (allM a.mails b.mails).length ≤ 20
  xa : -1000000000 ≤ a.next ∧ a.next ≤ 1000000000
  xb : -1000000000 ≤ b.next ∧ b.next ≤ 1000000000
theorem joined_count {a b : Box} (h : Joins a b) : (joinedS a b).1.length ≤ 20 := by
  rw [← joined_eq h.na h.nb]
  simp only [joinedI, sortBy_len, assignU_len]
  exact Nat.le_trans (List.length_filter_le _ _) h.all
set_option maxHeartbeats 4000000 in
theorem impl_JoinBox.says (h : impl_JoinBox.k M) (a b : Box) (H : Joins a b) : run M 401 [.a (encBox a), .a (encBox b)] [] = some (.a (encBoxO (joinBox a b)), []) := by
  obtain ⟨h0, kg, kc, kl, kj⟩ := h
  have h1 := impl_copyBox.says kc a H.ia
  have h2 := impl_JoinGone.says kg a.gone b.gone H.ia.g H.ib.g
  have h3 := impl_Later.says kl b.time b.who a.time a.who
  have h4 := impl_Later.says kl a.time a.who b.time b.who
  have h5 := impl_joined.says kj a b H.ia H.ib H.all (by have := H.xa; omega) (by have := H.xb; omega)
  rw [joined_eq H.na H.nb] at h5
  have e1 : (joinGone a.gone b.gone).length ≤ 4194304 := by
    have := joinGone_le a.gone b.gone
    have := H.ia.g
    have := H.ib.g
    omega
  have e2 := irow_length (joinGone a.gone b.gone)
  have e3 : ((joinedS a b).1.map encMail).length = (joinedS a b).1.length := by simp
  have e4 : (a.mails.map encMail).length = a.mails.length := by simp
  have e5 := irow_length a.gone
  have e6 := bless_gtr a.name b.name
  refine run_code (b := impl_JoinBox.m) h0 ⟨0, ?_⟩
  unfold joinBox
  by_cases c : a.gid = b.gid
  · rw [if_pos c]
    generalize later b.time b.who a.time a.who = x at *
    generalize later a.time a.who b.time b.who = y at *
    generalize hw : bless a.name b.name = w at *
    clear hw
    simp only [encBox, encBoxO, mails, ints] at *
    generalize (joinedS a b).1.map encMail = rj at *
    generalize (joinedS a b).1.length = nj at *
    generalize (joinedS a b).2 = xj at *
    generalize irow (joinGone a.gone b.gone) = gj at *
    generalize a.mails.map encMail = ra at *
    generalize b.mails.map encMail = rb at *
    generalize irow a.gone = ga at *
    generalize irow b.gone = gb at *
    rw [c] at h5
    cases x <;> cases y <;> cases w <;> simp (maxSteps := 1000000) [exB, impl_JoinBox.m, impl_JoinBox.b, List.range_succ, bs_get, setAt, h2, h3, h4, h5, c, e1, e2, e3, e6, List.take_of_length_le]
  · rw [if_neg c]
    simp only [encBox, encBoxO, mails, ints] at *
    generalize a.mails.map encMail = ra at *
    generalize b.mails.map encMail = rb at *
    generalize irow a.gone = ga at *
    generalize irow b.gone = gb at *
    simp (maxSteps := 1000000) [exB, impl_JoinBox.m, impl_JoinBox.b, List.range_succ, bs_get, setAt, h1, c, e4, e5, List.take_of_length_le]
theorem joined_flags {a b : Box} (H : Joins a b) : ∀ m ∈ (joinedS a b).1, m.flags.length ≤ 1048576 := by
  intro m hm
  obtain ⟨m0, h1, h2, h3, _, _⟩ := assignU_mem _ _ _ m ((joinedS_perm H.na H.nb).mem_iff.1 hm)
  obtain ⟨g, hg, rfl⟩ := List.mem_map.1 h1
  rw [h3]
  unfold joinM
  cases q1 : mailIn a.mails g with
  | some x =>
    have hx := H.ia.f x (mailIn_some q1).1
    cases q2 : mailIn b.mails g with
    | some y => exact Nat.le_trans (joinMail_flags _ _) hx
    | none => exact hx
  | none =>
    cases q2 : mailIn b.mails g with
    | some y => exact H.ib.f y (mailIn_some q2).1
    | none => simp
theorem joinBox_in {a b : Box} (H : Joins a b) : BoxIn (joinBox a b) := by
  unfold joinBox
  split
  · refine ⟨by have := joined_count H; simp only; omega, ?_, ?_, joined_flags H⟩
    · have := joinGone_le a.gone b.gone
      have := H.ga
      have := H.gb
      simp only; omega
    · simp only; split
      · exact H.ib.n
      · exact H.ia.n
  · exact H.ia
end Mx

namespace Mx
open Go
variable {M : Nat → Option Body}
theorem allM_le (a b : List Mail) : (allM a b).length ≤ a.length + b.length := by
  have := List.length_filter_le (fun m : Mail => (mailIn a m.gid).isNone) b
  simp only [allM, List.length_append, List.length_map]; omega
theorem Good.joins {a b : Box} (ha : Good a) (hb : Good b) : Joins a b :=
  ⟨ha.inB, hb.inB, by have := ha.goneL; omega, by have := hb.goneL; omega, ha.nd, hb.nd, by have := allM_le a.mails b.mails; have := ha.len; have := hb.len; omega, by have := ha.next; omega, by have := hb.next; omega⟩
end Mx

namespace Mx
open Go
variable {M : Nat → Option Body}
theorem spec_l08Next.says (h : spec_l08Next.k M) (a b : Box) : run M 459 [.a (encBox a), .a (encBox b)] [] = some (.c (I (Max.max a.next b.next)), []) := by
  refine run_code (b := spec_l08Next.m) h ⟨0, ?_⟩
  have e : Max.max a.next b.next = if b.next < a.next then a.next else b.next := by split <;> omega
  rw [e]
  simp only [encBox, mails, ints]
  by_cases c : b.next < a.next
  · simp (maxSteps := 1000000) [exB, spec_l08Next.m, spec_l08Next.b, List.range_succ, bs_get, setAt, c]
  · simp (maxSteps := 1000000) [exB, spec_l08Next.m, spec_l08Next.b, List.range_succ, bs_get, setAt, c]
theorem mfilter_fold (p : Mail → Bool) : ∀ (l s : List Mail), l.foldl (fun s a => if p a = true then s ++ [a] else s) s = s ++ l.filter p
  | [], s => by simp
  | a :: l, s => by
    rw [List.foldl_cons, mfilter_fold p l, List.filter_cons]
    by_cases h : p a = true <;> simp [h]
def lpS (l : List Mail) (m : Mail) (i : Nat) (s : List Mail) (x : Nat × Nat) : St := { t := [(0, .c (mails l)), (3, .c (.ptr 3 2000000 0 0)), (5, .c (.row 8 x.1 0 s.length)), (6, .c (I i))], o := [(3, ⟨2000000, 4, true, true, [encMail m]⟩), (8, ⟨x.1, 4, true, false, s.map encMail⟩)], n := x.2 }
def lpE (l : List Mail) (m : Mail) (s : List Mail) (x : Nat × Nat) : St := { t := [(0, .c (mails l)), (3, .c (.ptr 3 2000000 0 0)), (5, .c (.row 8 x.1 0 s.length)), (6, .c (I l.length)), (12, .c (.bool false))], o := [(3, ⟨2000000, 4, true, true, [encMail m]⟩), (8, ⟨x.1, 4, true, false, s.map encMail⟩)], n := x.2 }
def lqS (l : List Mail) (m : Mail) (i : Nat) (s : List Mail) (x : Nat × Nat) : St := { t := [(0, .c (mails l)), (3, .c (.ptr 3 2000000 0 0)), (5, .c (.row 8 x.1 0 s.length)), (7, .c (I i))], o := [(3, ⟨2000000, 4, true, true, [encMail m]⟩), (8, ⟨x.1, 4, true, false, s.map encMail⟩)], n := x.2 }
def lqE (l : List Mail) (m : Mail) (s : List Mail) (x : Nat × Nat) : St := { t := [(0, .c (mails l)), (3, .c (.ptr 3 2000000 0 0)), (5, .c (.row 8 x.1 0 s.length)), (7, .c (I l.length)), (37, .c (.bool false))], o := [(3, ⟨2000000, 4, true, true, [encMail m]⟩), (8, ⟨x.1, 4, true, false, s.map encMail⟩)], n := x.2 }
set_option maxHeartbeats 2000000 in
theorem spec_l08Put.says (h : spec_l08Put.k M) (l : List Mail) (m : Mail) (hl : l.length ≤ 16777216) : run M 462 [.c (mails l), .a (encMail m)] [] = some (.c (.sl true 4 ((insBy (·.uid) l m).map encMail)), []) := by
  refine run_code (b := spec_l08Put.m) h ⟨l.length + 1, ?_⟩
  have hrow : (l.map encMail).length = l.length := by simp
  have hat : ∀ i (hi : i < l.length) hh, (l.map encMail)[i]'hh = encMail l[i] := by intro i hi hh; simp
  obtain ⟨g, hr⟩ := fold_loop (f := exC (run M) (l.length + 1) spec_l08Put.l0) l (fun s a => if decide (a.uid ≤ m.uid) = true then s ++ [a] else s) (fun i s => s.length ≤ i) (lpS l m) 0 (lpE l m)
    (fun i h s hs => by split <;> (try simp) <;> omega)
    (fun i hi s x hs => by
      obtain ⟨v, n⟩ := x
      have e5 : IntKind.i64.wrap ((i : Int) + 1) = (i : Int) + 1 := wrap_i64 (by omega) (by omega)
      have e6 : s.length + 1 ≤ 4294967296 := by omega
      have e9 : (s.map encMail).length = s.length := by simp
      have a1 := hat i hi
      simp only [Prod.exists]
      by_cases c : l[i].uid ≤ m.uid
      · simp only [c, decide_true, if_true, lpS, List.map_append, List.map_cons, List.map_nil, List.length_append, List.length_singleton]
        simp only [mails, encMail, regs] at a1 ⊢
        generalize s.map encMail = rr at *
        generalize l.map encMail = rl at *
        generalize l[i].flags.map encReg = rf at *
        simp (maxSteps := 1000000) [spec_l08Put.l0, List.range_succ, bs_get, setAt, hi, hrow, a1, c, e5, e6, e9, List.take_of_length_le]
      · simp only [c, decide_false, Bool.false_eq_true, if_false, lpS]
        simp only [mails, encMail, regs] at a1 ⊢
        generalize s.map encMail = rr at *
        generalize l.map encMail = rl at *
        generalize l[i].flags.map encReg = rf at *
        simp (maxSteps := 1000000) [spec_l08Put.l0, List.range_succ, bs_get, setAt, hi, hrow, a1, c, e5])
    (fun s x hs => by
      obtain ⟨v, n⟩ := x
      simp only [Prod.exists, lpS, lpE, mails]
      generalize l.map encMail = rl at *
      simp (maxSteps := 1000000) [spec_l08Put.l0, List.range_succ, bs_get, setAt, hrow]) [] (by simp)
  obtain ⟨g', hr'⟩ := fold_loop (f := exC (run M) (l.length + 1) spec_l08Put.l1) l (fun s a => if decide (m.uid < a.uid) = true then s ++ [a] else s) (fun i s => s.length ≤ l.length + 1 + i) (lqS l m) 2 (lqE l m)
    (fun i h s hs => by split <;> (try simp) <;> omega)
    (fun i hi s x hs => by
      obtain ⟨v, n⟩ := x
      have e5 : IntKind.i64.wrap ((i : Int) + 1) = (i : Int) + 1 := wrap_i64 (by omega) (by omega)
      have e6 : s.length + 1 ≤ 4294967296 := by omega
      have e9 : (s.map encMail).length = s.length := by simp
      have a1 := hat i hi
      simp only [Prod.exists]
      by_cases c : m.uid < l[i].uid
      · simp only [c, decide_true, if_true, lqS, List.map_append, List.map_cons, List.map_nil, List.length_append, List.length_singleton]
        simp only [mails, encMail, regs] at a1 ⊢
        generalize s.map encMail = rr at *
        generalize l.map encMail = rl at *
        generalize l[i].flags.map encReg = rf at *
        simp (maxSteps := 1000000) [spec_l08Put.l1, List.range_succ, bs_get, setAt, hi, hrow, a1, c, e5, e6, e9, List.take_of_length_le]
      · simp only [c, decide_false, Bool.false_eq_true, if_false, lqS]
        simp only [mails, encMail, regs] at a1 ⊢
        generalize s.map encMail = rr at *
        generalize l.map encMail = rl at *
        generalize l[i].flags.map encReg = rf at *
        simp (maxSteps := 1000000) [spec_l08Put.l1, List.range_succ, bs_get, setAt, hi, hrow, a1, c, e5])
    (fun s x hs => by
      obtain ⟨v, n⟩ := x
      simp only [Prod.exists, lqS, lqE, mails]
      generalize l.map encMail = rl at *
      simp (maxSteps := 1000000) [spec_l08Put.l1, List.range_succ, bs_get, setAt, hrow]) (l.filter (fun y => decide (y.uid ≤ m.uid)) ++ [m]) (by have := List.length_filter_le (fun y : Mail => decide (y.uid ≤ m.uid)) l; simp; omega)
  rw [mfilter_fold] at hr hr'
  have hr0 := hr (2000032, 2000080)
  generalize g (2000032, 2000080) = y at *
  obtain ⟨v1, n1⟩ := y
  have hr1 := hr' (n1 + 48, n1 + 96)
  generalize g' (n1 + 48, n1 + 96) = y at *
  obtain ⟨v2, n2⟩ := y
  have e1 : (l.filter (fun y => decide (y.uid ≤ m.uid))).length ≤ 16777216 := Nat.le_trans (List.length_filter_le _ _) hl
  have e2 : (l.filter (fun y => decide (m.uid < y.uid))).length ≤ 16777216 := Nat.le_trans (List.length_filter_le _ _) hl
  simp only [lpS, lpE, lqS, lqE, List.nil_append, List.map_append, List.map_cons, List.map_nil, List.length_append, List.length_singleton, List.length_nil] at hr0 hr1
  have e3 : ((l.filter (fun y => decide (y.uid ≤ m.uid))).map encMail).length = (l.filter (fun y => decide (y.uid ≤ m.uid))).length := by simp
  have e4 : ((l.filter (fun y => decide (m.uid < y.uid))).map encMail).length = (l.filter (fun y => decide (m.uid < y.uid))).length := by simp
  have ez : ((0 : Nat) : Int) = 0 := rfl
  simp only [ez] at hr0 hr1
  simp only [insBy, List.map_append, List.map_cons, List.map_nil]
  simp only [mails, encMail, regs] at *
  generalize (l.filter (fun y => decide (y.uid ≤ m.uid))).map encMail = r1 at *
  generalize (l.filter (fun y => decide (m.uid < y.uid))).map encMail = r2 at *
  generalize (l.filter (fun y => decide (y.uid ≤ m.uid))).length = k1 at *
  generalize (l.filter (fun y => decide (m.uid < y.uid))).length = k2 at *
  generalize l.map encMail = rl at *
  generalize m.flags.map encReg = rf at *
  have e5 : k1 + 1 ≤ 4294967296 := by omega
  have e6 : (r1 ++ ([I m.gid, I m.uid, T.sl false 3 rf, S m.text] :: r2)).take (k1 + 1 + k2) = r1 ++ ([I m.gid, I m.uid, T.sl false 3 rf, S m.text] :: r2) := List.take_of_length_le (by simp; omega)
  have e7 : k1 + 1 + k2 ≤ k1 + (k2 + 1) := by omega
  simp (maxSteps := 1000000) [exB, spec_l08Put.m, spec_l08Put.b, List.range_succ, bs_get, setAt, e7, hr0, hr1, e3, e4, e5, e6, List.take_of_length_le]
def gcS (u2 u3 : Nat) (a b : Box) (i : Nat) (s : List Int) (x : Nat × Nat) : St := { t := [(2, .c (.ptr 2 u2 0 0)), (3, .c (.ptr 3 u3 0 0)), (5, .c (.row 8 x.1 0 s.length)), (6, .c (I i))], o := [(2, ⟨u2, 7, true, true, [encBox a]⟩), (3, ⟨u3, 7, true, true, [encBox b]⟩), (8, ⟨x.1, 1, true, false, irow s⟩)], n := x.2 }
def gcE (u2 u3 : Nat) (a b : Box) (s : List Int) (x : Nat × Nat) : St := { t := [(2, .c (.ptr 2 u2 0 0)), (3, .c (.ptr 3 u3 0 0)), (5, .c (.row 8 x.1 0 s.length)), (6, .c (I a.mails.length)), (13, .c (.bool false))], o := [(2, ⟨u2, 7, true, true, [encBox a]⟩), (3, ⟨u3, 7, true, true, [encBox b]⟩), (8, ⟨x.1, 1, true, false, irow s⟩)], n := x.2 }
def gdS (u3 : Nat) (b : Box) (i : Nat) (s : List Int) (x : Nat × Nat) : St := { t := [(3, .c (.ptr 3 u3 0 0)), (5, .c (.row 8 x.1 0 s.length)), (7, .c (I i))], o := [(3, ⟨u3, 7, true, true, [encBox b]⟩), (8, ⟨x.1, 1, true, false, irow s⟩)], n := x.2 }
def gdE (u3 : Nat) (b : Box) (s : List Int) (x : Nat × Nat) : St := { t := [(3, .c (.ptr 3 u3 0 0)), (5, .c (.row 8 x.1 0 s.length)), (7, .c (I b.mails.length)), (37, .c (.bool false))], o := [(3, ⟨u3, 7, true, true, [encBox b]⟩), (8, ⟨x.1, 1, true, false, irow s⟩)], n := x.2 }
theorem gadd_le (s : List Int) (x : Int) : (gadd s x).length ≤ s.length + 1 := by
  unfold gadd
  split
  · omega
  · exact gput_le s x
theorem gids_fold (l : List Mail) (s : List Int) : l.foldl (fun s m => gadd s m.gid) s = (gids l).foldl gadd s := by
  simp only [gids, List.foldl_map]
set_option maxHeartbeats 2000000 in
theorem spec_l08Gids.says (h : spec_l08Gids.k M) (a b : Box) (ha : a.mails.length ≤ 1048576) (hb : b.mails.length ≤ 1048576) : run M 460 [.a (encBox a), .a (encBox b)] [] = some (.c (.sl true 1 (irow (joinGone (gids a.mails) (gids b.mails)))), []) := by
  obtain ⟨h0, kin, kput⟩ := h
  refine run_code (b := spec_l08Gids.m) h0 ⟨a.mails.length + b.mails.length + 1, ?_⟩
  generalize hK : a.mails.length + b.mails.length + 1 = K
  have hra : (a.mails.map encMail).length = a.mails.length := by simp
  have hrb : (b.mails.map encMail).length = b.mails.length := by simp
  obtain ⟨g, hr⟩ := fold_loop (f := exC (run M) K spec_l08Gids.l0) a.mails (fun s m => gadd s m.gid) (fun i s => s.length ≤ i) (gcS 2000000 2000016 a b) 0 (gcE 2000000 2000016 a b)
    (fun i h s hs => by have := gadd_le s a.mails[i].gid; omega)
    (fun i hi s x hs => by
      obtain ⟨v, n⟩ := x
      have e5 : IntKind.i64.wrap ((i : Int) + 1) = (i : Int) + 1 := wrap_i64 (by omega) (by omega)
      have e9 := irow_length s
      have h1 := spec_l06In.says kin s a.mails[i].gid (by omega)
      have h2 := spec_l06Put.says kput s a.mails[i].gid (by omega)
      have a1 : ∀ hh, (a.mails.map encMail)[i]'hh = encMail a.mails[i] := by intro hh; simp
      have e10 := irow_length (gput s a.mails[i].gid)
      have hfl := irow_scalar (gput s a.mails[i].gid)
      simp only [Prod.exists, gadd]
      by_cases c : a.mails[i].gid ∈ s
      · rw [decide_eq_true c] at h1
        rw [if_pos c]
        simp only [gcS]
        simp only [encBox, mails, ints, encMail, regs] at a1 h1 ⊢
        generalize irow s = rs at *
        generalize a.mails.map encMail = ra at *
        generalize b.mails.map encMail = rb at *
        simp (maxSteps := 1000000) [spec_l08Gids.l0, List.range_succ, bs_get, setAt, hra, hi, h1, a1, e5, e9, List.take_of_length_le]
      · rw [decide_eq_false c] at h1
        rw [if_neg c]
        simp only [gcS]
        simp only [encBox, mails, ints, encMail, regs] at a1 h1 h2 ⊢
        generalize irow (gput s a.mails[i].gid) = rp at *
        generalize irow s = rs at *
        generalize a.mails.map encMail = ra at *
        generalize b.mails.map encMail = rb at *
        simp (maxSteps := 1000000) [spec_l08Gids.l0, List.range_succ, bs_get, setAt, hra, hi, h1, h2, a1, e5, e9, e10, hfl, List.take_of_length_le])
    (fun s x hs => by
      obtain ⟨v, n⟩ := x
      simp only [Prod.exists, gcS, gcE, encBox, mails, ints]
      generalize a.mails.map encMail = ra at *
      generalize b.mails.map encMail = rb at *
      simp (maxSteps := 1000000) [spec_l08Gids.l0, List.range_succ, bs_get, setAt, hra]) [] (by simp)
  obtain ⟨g', hr'⟩ := fold_loop (f := exC (run M) K spec_l08Gids.l1) b.mails (fun s m => gadd s m.gid) (fun i s => s.length ≤ a.mails.length + i) (gdS 2000016 b) 2 (gdE 2000016 b)
    (fun i h s hs => by have := gadd_le s b.mails[i].gid; omega)
    (fun i hi s x hs => by
      obtain ⟨v, n⟩ := x
      have e5 : IntKind.i64.wrap ((i : Int) + 1) = (i : Int) + 1 := wrap_i64 (by omega) (by omega)
      have e9 := irow_length s
      have h1 := spec_l06In.says kin s b.mails[i].gid (by omega)
      have h2 := spec_l06Put.says kput s b.mails[i].gid (by omega)
      have a1 : ∀ hh, (b.mails.map encMail)[i]'hh = encMail b.mails[i] := by intro hh; simp
      have e10 := irow_length (gput s b.mails[i].gid)
      have hfl := irow_scalar (gput s b.mails[i].gid)
      simp only [Prod.exists, gadd]
      by_cases c : b.mails[i].gid ∈ s
      · rw [decide_eq_true c] at h1
        rw [if_pos c]
        simp only [gdS]
        simp only [encBox, mails, ints, encMail, regs] at a1 h1 ⊢
        generalize irow s = rs at *
        generalize b.mails.map encMail = rb at *
        simp (maxSteps := 1000000) [spec_l08Gids.l1, List.range_succ, bs_get, setAt, hrb, hi, h1, a1, e5, e9, List.take_of_length_le]
      · rw [decide_eq_false c] at h1
        rw [if_neg c]
        simp only [gdS]
        simp only [encBox, mails, ints, encMail, regs] at a1 h1 h2 ⊢
        generalize irow (gput s b.mails[i].gid) = rp at *
        generalize irow s = rs at *
        generalize b.mails.map encMail = rb at *
        simp (maxSteps := 1000000) [spec_l08Gids.l1, List.range_succ, bs_get, setAt, hrb, hi, h1, h2, a1, e5, e9, e10, hfl, List.take_of_length_le])
    (fun s x hs => by
      obtain ⟨v, n⟩ := x
      simp only [Prod.exists, gdS, gdE, encBox, mails, ints]
      generalize b.mails.map encMail = rb at *
      simp (maxSteps := 1000000) [spec_l08Gids.l1, List.range_succ, bs_get, setAt, hrb]) (a.mails.foldl (fun s m => gadd s m.gid) []) (by
        have := foldl_inv a.mails (fun s m => gadd s m.gid) (fun i s => s.length ≤ i) (fun i h s hs => by have := gadd_le s a.mails[i].gid; omega) [] (by simp)
        omega)
  have hj : joinGone (gids a.mails) (gids b.mails) = b.mails.foldl (fun s m => gadd s m.gid) (a.mails.foldl (fun s m => gadd s m.gid) []) := by
    rw [gids_fold, gids_fold, joinGone, List.foldl_append]
  rw [hj]
  clear hj
  have hr0 := loopN_le (hr (2000048, 2000096)) (show a.mails.length + 1 ≤ K by omega)
  generalize g (2000048, 2000096) = y at *
  obtain ⟨v1, n1⟩ := y
  have hr1 := loopN_le (hr' (v1, n1 + 16)) (show b.mails.length + 1 ≤ K by omega)
  generalize g' (v1, n1 + 16) = y at *
  obtain ⟨v2, n2⟩ := y
  generalize hs1 : a.mails.foldl (fun s m => gadd s m.gid) [] = s1 at *
  generalize hs2 : b.mails.foldl (fun s m => gadd s m.gid) s1 = s2 at *
  have ez : ((0 : Nat) : Int) = 0 := rfl
  have e10 := irow_length s2
  simp only [gcS, gcE, gdS, gdE, ez, List.length_nil, irow_nil] at hr0 hr1
  simp only [encBox, mails, ints] at *
  generalize irow s1 = r1 at *
  generalize irow s2 = r2 at *
  generalize a.mails.map encMail = ra at *
  generalize b.mails.map encMail = rb at *
  simp (maxSteps := 1000000) [exB, spec_l08Gids.m, spec_l08Gids.b, List.range_succ, bs_get, setAt, hr0, hr1, e10, List.take_of_length_le]
end Mx

namespace Mx
open Go
variable {M : Nat → Option Body}
def sjO (u2 u3 : Nat) (a b : Box) (v : Nat) (L : List Mail) : List (Nat × Ob) := [(2, ⟨u2, 7, true, true, [encBox a]⟩), (3, ⟨u3, 7, true, true, [encBox b]⟩), (17, ⟨v, 4, true, false, L.map encMail⟩)]
def sjS (u2 u3 : Nat) (a b : Box) (G : List Int) (i : Nat) (s : List Mail × Int) (x : Nat × Nat) : St := { t := [(2, .c (.ptr 2 u2 0 0)), (3, .c (.ptr 3 u3 0 0)), (6, .c (I s.2)), (7, .c (.row 17 x.1 0 s.1.length)), (8, .c (ints G)), (9, .c (I i))], o := sjO u2 u3 a b x.1 s.1, n := x.2 }
def sjE (u2 u3 : Nat) (a b : Box) (G : List Int) (s : List Mail × Int) (x : Nat × Nat) : St := { t := [(2, .c (.ptr 2 u2 0 0)), (3, .c (.ptr 3 u3 0 0)), (6, .c (I s.2)), (7, .c (.row 17 x.1 0 s.1.length)), (8, .c (ints G)), (9, .c (I G.length)), (24, .c (.bool false))], o := sjO u2 u3 a b x.1 s.1, n := x.2 }
structure SjK (M : Nat → Option Body) : Prop where
  keeps : spec_KeepsUid.k M
  at_ : spec_MailAt.k M
  inn : spec_l06In.k M
  copy : spec_l05Copy.k M
  join : spec_JoinMail.k M
  put : spec_l08Put.k M
theorem holds_of {a : Box} {g : Int} : holds a g = (mailO a.mails g).isSome := by
  unfold holds
  cases mailO a.mails g with
  | none => rfl
  | some k => exact decide_eq_true (Int.natCast_nonneg k)
/-- one that is gone -/
theorem sj_gone (K : SjK M) (k u2 u3 : Nat) (a b : Box) (ha : BoxIn a) (hb : BoxIn b) (G : List Int) (hG : G.length ≤ 4194304) (i : Nat) (hi : i < G.length) (s : List Mail × Int) (x : Nat × Nat) (c : G[i] ∈ a.gone ∨ G[i] ∈ b.gone) :
    ∃ y, exC (run M) k spec_l08Join.l0 (sjS u2 u3 a b G i s x) = some (.normal, sjS u2 u3 a b G (i + 1) s y) := by
  obtain ⟨v, n⟩ := x
  obtain ⟨L, nx⟩ := s
  have h1 := spec_l06In.says K.inn a.gone G[i] (by have := ha.g; omega)
  have h2 := spec_l06In.says K.inn b.gone G[i] (by have := hb.g; omega)
  have e5 : IntKind.i64.wrap ((i : Int) + 1) = (i : Int) + 1 := wrap_i64 (by omega) (by omega)
  have eg := irow_length G
  have a0 : ∀ hh, (irow G)[i]'hh = [I G[i]] := by intro hh; simp [irow]
  have hcd : G[i] ∈ a.gone ∨ ¬ G[i] ∈ a.gone ∧ G[i] ∈ b.gone := by
    by_cases q : G[i] ∈ a.gone
    · exact .inl q
    · exact .inr ⟨q, c.resolve_left q⟩
  simp only [Prod.exists, sjS, sjO]
  rcases hcd with q | ⟨q1, q2⟩
  · rw [decide_eq_true q] at h1
    simp only [encBox, mails, ints] at *
    generalize irow G = rg at *
    generalize irow a.gone = ga at *
    generalize irow b.gone = gb at *
    generalize a.mails.map encMail = ra at *
    generalize b.mails.map encMail = rb at *
    generalize L.map encMail = rl at *
    simp (maxSteps := 1000000) [spec_l08Join.l0, List.range_succ, bs_get, setAt, hi, h1, e5, eg, a0, List.take_of_length_le]
  · rw [decide_eq_false q1] at h1
    rw [decide_eq_true q2] at h2
    simp only [encBox, mails, ints] at *
    generalize irow G = rg at *
    generalize irow a.gone = ga at *
    generalize irow b.gone = gb at *
    generalize a.mails.map encMail = ra at *
    generalize b.mails.map encMail = rb at *
    generalize L.map encMail = rl at *
    simp (maxSteps := 1000000) [spec_l08Join.l0, List.range_succ, bs_get, setAt, hi, h1, h2, e5, eg, a0, List.take_of_length_le]
theorem sj_end (k u2 u3 : Nat) (a b : Box) (G : List Int) (s : List Mail × Int) (x : Nat × Nat) :
    ∃ y, exC (run M) k spec_l08Join.l0 (sjS u2 u3 a b G G.length s x) = some (.exit 0, sjE u2 u3 a b G s y) := by
  obtain ⟨v, n⟩ := x
  obtain ⟨L, nx⟩ := s
  have eg := irow_length G
  simp only [Prod.exists, sjS, sjE, sjO]
  simp only [encBox, mails, ints] at *
  generalize irow G = rg at *
  generalize irow a.gone = ga at *
  generalize irow b.gone = gb at *
  generalize a.mails.map encMail = ra at *
  generalize b.mails.map encMail = rb at *
  generalize L.map encMail = rl at *
  simp (maxSteps := 1000000) [spec_l08Join.l0, List.range_succ, bs_get, setAt, eg]
set_option maxHeartbeats 8000000 in
/-- one that both have -/
theorem sj_both (K : SjK M) (k u2 u3 : Nat) (a b : Box) (ha : BoxIn a) (hb : BoxIn b) (G : List Int) (hG : G.length ≤ 4194304) (i : Nat) (hi : i < G.length) (s : List Mail × Int) (hs : s.1.length ≤ 16777216) (hx : -1000000000 ≤ s.2 ∧ s.2 ≤ 1000000000000) (x : Nat × Nat) (c1 : ¬ G[i] ∈ a.gone) (c2 : ¬ G[i] ∈ b.gone)
    (p q : Nat) (hp : mailO a.mails G[i] = some p) (hq : mailO b.mails G[i] = some q) :
    ∃ y, exC (run M) k spec_l08Join.l0 (sjS u2 u3 a b G i s x) = some (.normal, sjS u2 u3 a b G (i + 1) (stepJ a b s G[i]) y) := by
  obtain ⟨v, n⟩ := x
  obtain ⟨L, nx⟩ := s
  simp only at hs hx
  have h1 := spec_l06In.says K.inn a.gone G[i] (by have := ha.g; omega)
  have h2 := spec_l06In.says K.inn b.gone G[i] (by have := hb.g; omega)
  rw [decide_eq_false c1] at h1
  rw [decide_eq_false c2] at h2
  have h3 := spec_MailAt.says K.at_ a G[i] ha.m
  have h4 := spec_MailAt.says K.at_ b G[i] hb.m
  rw [hp] at h3
  rw [hq] at h4
  obtain ⟨hp1, hp2⟩ := mailO_in_some hp
  obtain ⟨hq1, hq2⟩ := mailO_in_some hq
  have h5 := spec_JoinMail.says K.join a.mails[p] b.mails[q] (ha.f _ (List.getElem_mem hp1)) (hb.f _ (List.getElem_mem hq1))
  have h6 := spec_KeepsUid.says K.keeps a b G[i] ha.m hb.m
  have h7 := spec_KeepsUid.says K.keeps b a G[i] hb.m ha.m
  have h8 := spec_l08Put.says K.put L (joinMail a.mails[p] b.mails[q]) hs
  have h9 := spec_l08Put.says K.put L { joinMail a.mails[p] b.mails[q] with uid := nx } hs
  have e5 : IntKind.i64.wrap ((i : Int) + 1) = (i : Int) + 1 := wrap_i64 (by omega) (by omega)
  have e6 : IntKind.i64.wrap (nx + 1) = nx + 1 := wrap_i64 (by omega) (by omega)
  have eg := irow_length G
  have a0 : ∀ hh, (irow G)[i]'hh = [I G[i]] := by intro hh; simp [irow]
  have a1 : ∀ hh, (a.mails.map encMail)[p]'hh = encMail a.mails[p] := by intro hh; simp
  have a2 : ∀ hh, (b.mails.map encMail)[q]'hh = encMail b.mails[q] := by intro hh; simp
  have el : (L.map encMail).length = L.length := by simp
  have eA : (a.mails.map encMail).length = a.mails.length := by simp
  have eB : (b.mails.map encMail).length = b.mails.length := by simp
  have l8 : ((insBy (fun m : Mail => m.uid) L (joinMail a.mails[p] b.mails[q])).map encMail).length = (insBy (fun m : Mail => m.uid) L (joinMail a.mails[p] b.mails[q])).length := by simp
  have l9 : ((insBy (fun m : Mail => m.uid) L { joinMail a.mails[p] b.mails[q] with uid := nx }).map encMail).length = (insBy (fun m : Mail => m.uid) L { joinMail a.mails[p] b.mails[q] with uid := nx }).length := by simp
  have hst : stepJ a b (L, nx) G[i] = if (!keepsUid a b G[i] || !keepsUid b a G[i]) = true then (insBy (fun m : Mail => m.uid) L { joinMail a.mails[p] b.mails[q] with uid := nx }, nx + 1) else (insBy (fun m : Mail => m.uid) L (joinMail a.mails[p] b.mails[q]), nx) := by
    have e1 : needs a b G[i] = (!keepsUid a b G[i] || !keepsUid b a G[i]) := by simp [needs, holds_of, hp, hq]
    have e2 : joinM a.mails b.mails G[i] = joinMail a.mails[p] b.mails[q] := by simp [joinM, hp2, hq2]
    simp only [stepJ]
    rw [if_neg (by simp [c1, c2]), e1, e2]
  rw [hst]
  clear hst hp hq hp2 hq2 c1 c2
  simp only [Prod.exists, sjS, sjO]
  simp only [encBox, mails, ints, intO, encMail, encMailO, regs] at *
  generalize keepsUid a b G[i] = w1 at *
  generalize keepsUid b a G[i] = w2 at *
  generalize joinMail a.mails[p] b.mails[q] = m at *
  generalize insBy (fun m : Mail => m.uid) L { m with uid := nx } = L9 at *
  generalize insBy (fun m : Mail => m.uid) L m = L8 at *
  generalize a.mails[p] = ma at *
  generalize b.mails[q] = mb at *
  generalize G[i] = g at *
  generalize irow G = rg at *
  generalize irow a.gone = ga at *
  generalize irow b.gone = gb at *
  generalize a.mails.map encMail = ra at *
  generalize b.mails.map encMail = rb at *
  generalize L.map encMail = rl at *
  generalize m.flags.map encReg = rm at *
  generalize ma.flags.map encReg = rma at *
  generalize mb.flags.map encReg = rmb at *
  cases w1 <;> cases w2 <;> simp (maxSteps := 1000000) [spec_l08Join.l0, List.range_succ, bs_get, setAt, hi, hp1, hq1, h1, h2, h3, h4, h5, h6, h7, h8, h9, e5, e6, eg, a0, a1, a2, el, eA, eB, l8, l9, List.take_of_length_le]
set_option maxHeartbeats 8000000 in
/-- one that the first has -/
theorem sj_a (K : SjK M) (k u2 u3 : Nat) (a b : Box) (ha : BoxIn a) (hb : BoxIn b) (G : List Int) (hG : G.length ≤ 4194304) (i : Nat) (hi : i < G.length) (s : List Mail × Int) (hs : s.1.length ≤ 16777216) (hx : -1000000000 ≤ s.2 ∧ s.2 ≤ 1000000000000) (x : Nat × Nat) (c1 : ¬ G[i] ∈ a.gone) (c2 : ¬ G[i] ∈ b.gone)
    (p : Nat) (hp : mailO a.mails G[i] = some p) (hq : mailO b.mails G[i] = none) :
    ∃ y, exC (run M) k spec_l08Join.l0 (sjS u2 u3 a b G i s x) = some (.normal, sjS u2 u3 a b G (i + 1) (stepJ a b s G[i]) y) := by
  obtain ⟨v, n⟩ := x
  obtain ⟨L, nx⟩ := s
  simp only at hs hx
  have h1 := spec_l06In.says K.inn a.gone G[i] (by have := ha.g; omega)
  have h2 := spec_l06In.says K.inn b.gone G[i] (by have := hb.g; omega)
  rw [decide_eq_false c1] at h1
  rw [decide_eq_false c2] at h2
  have h3 := spec_MailAt.says K.at_ a G[i] ha.m
  have h4 := spec_MailAt.says K.at_ b G[i] hb.m
  rw [hp] at h3
  rw [hq] at h4
  obtain ⟨hp1, hp2⟩ := mailO_in_some hp
  have hq2 := mailO_in_none.1 hq
  have h5 := spec_l05Copy.says K.copy a.mails[p] (ha.f _ (List.getElem_mem hp1))
  have h6 := spec_KeepsUid.says K.keeps a b G[i] ha.m hb.m
  have h8 := spec_l08Put.says K.put L a.mails[p] hs
  have h9 := spec_l08Put.says K.put L { a.mails[p] with uid := nx } hs
  have e5 : IntKind.i64.wrap ((i : Int) + 1) = (i : Int) + 1 := wrap_i64 (by omega) (by omega)
  have e6 : IntKind.i64.wrap (nx + 1) = nx + 1 := wrap_i64 (by omega) (by omega)
  have eg := irow_length G
  have a0 : ∀ hh, (irow G)[i]'hh = [I G[i]] := by intro hh; simp [irow]
  have a1 : ∀ hh, (a.mails.map encMail)[p]'hh = encMail a.mails[p] := by intro hh; simp
  have el : (L.map encMail).length = L.length := by simp
  have eA : (a.mails.map encMail).length = a.mails.length := by simp
  have eB : (b.mails.map encMail).length = b.mails.length := by simp
  have l8 : ((insBy (fun m : Mail => m.uid) L a.mails[p]).map encMail).length = (insBy (fun m : Mail => m.uid) L a.mails[p]).length := by simp
  have l9 : ((insBy (fun m : Mail => m.uid) L { a.mails[p] with uid := nx }).map encMail).length = (insBy (fun m : Mail => m.uid) L { a.mails[p] with uid := nx }).length := by simp
  have hst : stepJ a b (L, nx) G[i] = if (!keepsUid a b G[i]) = true then (insBy (fun m : Mail => m.uid) L { a.mails[p] with uid := nx }, nx + 1) else (insBy (fun m : Mail => m.uid) L a.mails[p], nx) := by
    have e1 : needs a b G[i] = (!keepsUid a b G[i]) := by simp [needs, holds_of, hp, hq]
    have e2 : joinM a.mails b.mails G[i] = a.mails[p] := by simp [joinM, hp2, hq2]
    simp only [stepJ]
    rw [if_neg (by simp [c1, c2]), e1, e2]
  rw [hst]
  clear hst hp hq hp2 hq2 c1 c2
  simp only [Prod.exists, sjS, sjO]
  simp only [encBox, mails, ints, intO, encMail, encMailO, regs] at *
  generalize keepsUid a b G[i] = w1 at *
  generalize a.mails[p] = m at *
  generalize insBy (fun m : Mail => m.uid) L { m with uid := nx } = L9 at *
  generalize insBy (fun m : Mail => m.uid) L m = L8 at *
  generalize G[i] = g at *
  generalize irow G = rg at *
  generalize irow a.gone = ga at *
  generalize irow b.gone = gb at *
  generalize a.mails.map encMail = ra at *
  generalize b.mails.map encMail = rb at *
  generalize L.map encMail = rl at *
  generalize m.flags.map encReg = rm at *
  cases w1 <;> simp (maxSteps := 1000000) [spec_l08Join.l0, List.range_succ, bs_get, setAt, hi, hp1, h1, h2, h3, h4, h5, h6, h8, h9, e5, e6, eg, a0, a1, el, eA, eB, l8, l9, List.take_of_length_le]
set_option maxHeartbeats 8000000 in
/-- one that the second alone has -/
theorem sj_b (K : SjK M) (k u2 u3 : Nat) (a b : Box) (ha : BoxIn a) (hb : BoxIn b) (G : List Int) (hG : G.length ≤ 4194304) (i : Nat) (hi : i < G.length) (s : List Mail × Int) (hs : s.1.length ≤ 16777216) (hx : -1000000000 ≤ s.2 ∧ s.2 ≤ 1000000000000) (x : Nat × Nat) (c1 : ¬ G[i] ∈ a.gone) (c2 : ¬ G[i] ∈ b.gone)
    (q : Nat) (hp : mailO a.mails G[i] = none) (hq : mailO b.mails G[i] = some q) :
    ∃ y, exC (run M) k spec_l08Join.l0 (sjS u2 u3 a b G i s x) = some (.normal, sjS u2 u3 a b G (i + 1) (stepJ a b s G[i]) y) := by
  obtain ⟨v, n⟩ := x
  obtain ⟨L, nx⟩ := s
  simp only at hs hx
  have h1 := spec_l06In.says K.inn a.gone G[i] (by have := ha.g; omega)
  have h2 := spec_l06In.says K.inn b.gone G[i] (by have := hb.g; omega)
  rw [decide_eq_false c1] at h1
  rw [decide_eq_false c2] at h2
  have h3 := spec_MailAt.says K.at_ a G[i] ha.m
  have h4 := spec_MailAt.says K.at_ b G[i] hb.m
  rw [hp] at h3
  rw [hq] at h4
  have hp2 := mailO_in_none.1 hp
  obtain ⟨hq1, hq2⟩ := mailO_in_some hq
  have h5 := spec_l05Copy.says K.copy b.mails[q] (hb.f _ (List.getElem_mem hq1))
  have h7 := spec_KeepsUid.says K.keeps b a G[i] hb.m ha.m
  have h8 := spec_l08Put.says K.put L b.mails[q] hs
  have h9 := spec_l08Put.says K.put L { b.mails[q] with uid := nx } hs
  have e5 : IntKind.i64.wrap ((i : Int) + 1) = (i : Int) + 1 := wrap_i64 (by omega) (by omega)
  have e6 : IntKind.i64.wrap (nx + 1) = nx + 1 := wrap_i64 (by omega) (by omega)
  have eg := irow_length G
  have a0 : ∀ hh, (irow G)[i]'hh = [I G[i]] := by intro hh; simp [irow]
  have a2 : ∀ hh, (b.mails.map encMail)[q]'hh = encMail b.mails[q] := by intro hh; simp
  have el : (L.map encMail).length = L.length := by simp
  have eA : (a.mails.map encMail).length = a.mails.length := by simp
  have eB : (b.mails.map encMail).length = b.mails.length := by simp
  have l8 : ((insBy (fun m : Mail => m.uid) L b.mails[q]).map encMail).length = (insBy (fun m : Mail => m.uid) L b.mails[q]).length := by simp
  have l9 : ((insBy (fun m : Mail => m.uid) L { b.mails[q] with uid := nx }).map encMail).length = (insBy (fun m : Mail => m.uid) L { b.mails[q] with uid := nx }).length := by simp
  have hst : stepJ a b (L, nx) G[i] = if (!keepsUid b a G[i]) = true then (insBy (fun m : Mail => m.uid) L { b.mails[q] with uid := nx }, nx + 1) else (insBy (fun m : Mail => m.uid) L b.mails[q], nx) := by
    have e1 : needs a b G[i] = (!keepsUid b a G[i]) := by simp [needs, holds_of, hp, hq]
    have e2 : joinM a.mails b.mails G[i] = b.mails[q] := by simp [joinM, hp2, hq2]
    simp only [stepJ]
    rw [if_neg (by simp [c1, c2]), e1, e2]
  rw [hst]
  clear hst hp hq hp2 hq2 c1 c2
  simp only [Prod.exists, sjS, sjO]
  simp only [encBox, mails, ints, intO, encMail, encMailO, regs] at *
  generalize keepsUid b a G[i] = w2 at *
  generalize b.mails[q] = m at *
  generalize insBy (fun m : Mail => m.uid) L { m with uid := nx } = L9 at *
  generalize insBy (fun m : Mail => m.uid) L m = L8 at *
  generalize G[i] = g at *
  generalize irow G = rg at *
  generalize irow a.gone = ga at *
  generalize irow b.gone = gb at *
  generalize a.mails.map encMail = ra at *
  generalize b.mails.map encMail = rb at *
  generalize L.map encMail = rl at *
  generalize m.flags.map encReg = rm at *
  cases w2 <;> simp (maxSteps := 1000000) [spec_l08Join.l0, List.range_succ, bs_get, setAt, hi, hq1, h1, h2, h3, h4, h5, h7, h8, h9, e5, e6, eg, a0, a2, el, eA, eB, l8, l9, List.take_of_length_le]
theorem stepJ_len (a b : Box) (s : List Mail × Int) (g : Int) : (stepJ a b s g).1.length ≤ s.1.length + 1 ∧ s.2 ≤ (stepJ a b s g).2 ∧ (stepJ a b s g).2 ≤ s.2 + 1 := by
  have h : ∀ (L : List Mail) (m : Mail), (insBy (fun m : Mail => m.uid) L m).length = L.length + 1 := fun L m => by
    have := (insBy_perm (k := fun m : Mail => m.uid) L m).length_eq
    simpa using this
  unfold stepJ
  split
  · omega
  · split
    · simp only [h]; omega
    · simp only [h]; omega
set_option maxHeartbeats 1000000 in
theorem spec_l08Join.says (h : spec_l08Join.k M) (a b : Box) (ha : BoxIn a) (hb : BoxIn b) (hna : -1000000000 ≤ a.next ∧ a.next ≤ 1000000000) (hnb : -1000000000 ≤ b.next ∧ b.next ≤ 1000000000) :
    run M 439 [.a (encBox a), .a (encBox b)] [] = some (.tup [.c (.sl true 4 ((joinedS a b).1.map encMail)), .c (I (joinedS a b).2)], []) := by
  obtain ⟨h0, kk, ka, ki, kc, kn, kg, kj, kp⟩ := h
  have K : SjK M := ⟨kk, ka, ki, kc, kj, kp⟩
  have h1 := spec_l08Next.says kn a b
  have h2 := spec_l08Gids.says kg a b ha.m hb.m
  have hG : (joinGone (gids a.mails) (gids b.mails)).length ≤ 4194304 := by
    have := joinGone_le (gids a.mails) (gids b.mails)
    have e1 : (gids a.mails).length = a.mails.length := by simp [gids]
    have e2 : (gids b.mails).length = b.mails.length := by simp [gids]
    have := ha.m
    have := hb.m
    omega
  have hmem : ∀ g ∈ joinGone (gids a.mails) (gids b.mails), g ∈ gids a.mails ∨ g ∈ gids b.mails := fun g hg => (joinGone_mem _ _ _).1 hg
  have hJ : joinedS a b = (joinGone (gids a.mails) (gids b.mails)).foldl (stepJ a b) ([], Max.max a.next b.next) := rfl
  rw [hJ]
  have eg := irow_length (joinGone (gids a.mails) (gids b.mails))
  clear hJ
  generalize joinGone (gids a.mails) (gids b.mails) = G at *
  generalize hmx : Max.max a.next b.next = mx at *
  refine run_code (b := spec_l08Join.m) h0 ⟨G.length + 1, ?_⟩
  obtain ⟨g, hr⟩ := fold_loop (f := exC (run M) (G.length + 1) spec_l08Join.l0) G (stepJ a b) (fun i s => s.1.length ≤ i ∧ mx ≤ s.2 ∧ s.2 ≤ mx + i) (sjS 2000000 2000016 a b G) 0 (sjE 2000000 2000016 a b G)
    (fun i hi s hs => by have := stepJ_len a b s G[i]; omega)
    (fun i hi s x hs => by
      by_cases c1 : G[i] ∈ a.gone
      · have e : stepJ a b s G[i] = s := by unfold stepJ; rw [if_pos (.inl c1)]
        rw [e]
        exact sj_gone K _ _ _ a b ha hb G hG i hi s x (.inl c1)
      by_cases c2 : G[i] ∈ b.gone
      · have e : stepJ a b s G[i] = s := by unfold stepJ; rw [if_pos (.inr c2)]
        rw [e]
        exact sj_gone K _ _ _ a b ha hb G hG i hi s x (.inr c2)
      cases hp : mailO a.mails G[i] with
      | some p =>
        cases hq : mailO b.mails G[i] with
        | some q => exact sj_both K _ _ _ a b ha hb G hG i hi s (by omega) (by omega) x c1 c2 p q hp hq
        | none => exact sj_a K _ _ _ a b ha hb G hG i hi s (by omega) (by omega) x c1 c2 p hp hq
      | none =>
        cases hq : mailO b.mails G[i] with
        | some q => exact sj_b K _ _ _ a b ha hb G hG i hi s (by omega) (by omega) x c1 c2 q hp hq
        | none =>
          exfalso
          rcases hmem _ (List.getElem_mem hi) with z | z
          · obtain ⟨m, hm, e⟩ := List.mem_map.1 z; exact mailO_none.1 hp m hm e
          · obtain ⟨m, hm, e⟩ := List.mem_map.1 z; exact mailO_none.1 hq m hm e)
    (fun s x hs => sj_end _ _ _ a b G s x) ([], mx) ⟨by simp, by simp, by simp⟩
  have hr0 := hr (2000128, 2000240)
  generalize g (2000128, 2000240) = y at *
  obtain ⟨v, n⟩ := y
  have el : ((G.foldl (stepJ a b) ([], mx)).1.map encMail).length = (G.foldl (stepJ a b) ([], mx)).1.length := by simp
  generalize G.foldl (stepJ a b) ([], mx) = R at *
  obtain ⟨L, nx⟩ := R
  have ez : ((0 : Nat) : Int) = 0 := rfl
  simp only [sjS, sjE, sjO, ez, List.map_nil, List.length_nil] at hr0
  simp only at el ⊢
  simp only [encBox, mails, ints] at *
  generalize irow G = rg at *
  generalize irow a.gone = ga at *
  generalize irow b.gone = gb at *
  generalize a.mails.map encMail = ra at *
  generalize b.mails.map encMail = rb at *
  generalize L.map encMail = rl at *
  simp (maxSteps := 1000000) [exB, spec_l08Join.m, spec_l08Join.b, List.range_succ, bs_get, setAt, hr0, h1, h2, eg, el, List.take_of_length_le]
end Mx

namespace Mx
open Go
variable {M : Nat → Option Body}
theorem later_eq (t w u x : Int) (p : Prop) : (later u x t w = true ∨ later t w u x = false ∧ p) ↔ (later u x t w = true ∨ (t = u ∧ w = x) ∧ p) := by
  simp only [later_iff, later_not]
  by_cases hp : p
  · simp only [hp, and_true]; omega
  · simp only [hp, and_false, or_false]
theorem joinBox_spec (a b : Box) : joinBox a b = if a.gid = b.gid then
    { gid := a.gid, name := if later b.time b.who a.time a.who = true ∨ (a.time = b.time ∧ a.who = b.who) ∧ bless a.name b.name = true then b.name else a.name,
      time := if later b.time b.who a.time a.who = true ∨ (a.time = b.time ∧ a.who = b.who) ∧ bless a.name b.name = true then b.time else a.time,
      who := if later b.time b.who a.time a.who = true ∨ (a.time = b.time ∧ a.who = b.who) ∧ bless a.name b.name = true then b.who else a.who,
      next := (joinedS a b).2, mails := (joinedS a b).1, gone := joinGone a.gone b.gone } else a := by
  unfold joinBox
  simp only [later_eq a.time a.who b.time b.who]
set_option maxHeartbeats 4000000 in
theorem spec_JoinBox.says (h : spec_JoinBox.k M) (a b : Box) (H : Joins a b) : run M 405 [.a (encBox a), .a (encBox b)] [] = some (.a (encBoxO (joinBox a b)), []) := by
  obtain ⟨h0, kg, kc, kl, kj⟩ := h
  have h1 := spec_l06Copy.says kc a H.ia
  have h2 := spec_JoinGone.says kg a.gone b.gone H.ia.g H.ib.g
  have h3 := spec_Later.says kl b.time b.who a.time a.who
  have h5 := spec_l08Join.says kj a b H.ia H.ib H.xa H.xb
  have e1 : (joinGone a.gone b.gone).length ≤ 4194304 := by
    have := joinGone_le a.gone b.gone
    have := H.ia.g
    have := H.ib.g
    omega
  have e2 := irow_length (joinGone a.gone b.gone)
  have e3 : ((joinedS a b).1.map encMail).length = (joinedS a b).1.length := by simp
  have e4 : (a.mails.map encMail).length = a.mails.length := by simp
  have e5 := irow_length a.gone
  have e6 := bless_gtr a.name b.name
  refine run_code (b := spec_JoinBox.m) h0 ⟨0, ?_⟩
  rw [joinBox_spec]
  by_cases c : a.gid = b.gid
  · rw [if_pos c]
    simp only [encBox, encBoxO, mails, ints] at *
    rw [c] at h5
    generalize hx : later b.time b.who a.time a.who = x at *
    generalize hw : bless a.name b.name = w at *
    generalize (joinedS a b).1.map encMail = rj at *
    generalize (joinedS a b).1.length = nj at *
    generalize (joinedS a b).2 = xj at *
    generalize irow (joinGone a.gone b.gone) = gj at *
    generalize a.mails.map encMail = ra at *
    generalize b.mails.map encMail = rb at *
    generalize irow a.gone = ga at *
    generalize irow b.gone = gb at *
    clear hx hw
    obtain ⟨ag, an, at', aw, anx, am, ago⟩ := a
    obtain ⟨bg, bn, bt, bw, bnx, bm, bgo⟩ := b
    simp only at *
    cases x
    · by_cases c2 : at' = bt
      · subst c2
        by_cases c3 : aw = bw
        · subst c3
          cases w <;> simp (maxSteps := 1000000) [exB, spec_JoinBox.m, spec_JoinBox.b, List.range_succ, bs_get, setAt, h2, h3, h5, c, e1, e2, e3, e6, List.take_of_length_le]
        · simp (maxSteps := 1000000) [exB, spec_JoinBox.m, spec_JoinBox.b, List.range_succ, bs_get, setAt, h2, h3, h5, c, c3, e1, e2, e3, e6, List.take_of_length_le]
      · simp (maxSteps := 1000000) [exB, spec_JoinBox.m, spec_JoinBox.b, List.range_succ, bs_get, setAt, h2, h3, h5, c, c2, e1, e2, e3, e6, List.take_of_length_le]
    · simp (maxSteps := 1000000) [exB, spec_JoinBox.m, spec_JoinBox.b, List.range_succ, bs_get, setAt, h2, h3, h5, c, e1, e2, e3, e6, List.take_of_length_le]
  · rw [if_neg c]
    simp only [encBox, encBoxO, mails, ints] at *
    generalize a.mails.map encMail = ra at *
    generalize b.mails.map encMail = rb at *
    generalize irow a.gone = ga at *
    generalize irow b.gone = gb at *
    simp (maxSteps := 1000000) [exB, spec_JoinBox.m, spec_JoinBox.b, List.range_succ, bs_get, setAt, h1, c, e4, e5, List.take_of_length_le]
end Mx

namespace Mx
open Go
variable {M : Nat → Option Body}
deriving instance DecidableEq for Reg
deriving instance DecidableEq for Mail
deriving instance DecidableEq for Box
end Mx

namespace Mx
open Go
variable {M : Nat → Option Body}
theorem allM_self (l : List Mail) : (allM l l).length = l.length := by
  have h : (l.filter fun m => (mailIn l m.gid).isNone) = [] := List.filter_eq_nil_iff.2 fun m hm c => by
    rw [Option.isNone_iff_eq_none] at c
    exact mailIn_none.1 c m hm rfl
  simp only [allM, List.length_append, List.length_map, h, List.length_nil, Nat.add_zero]
theorem joined_next_le {a b : Box} (ha : (gids a.mails).Nodup) (hb : (gids b.mails).Nodup) : (joinedS a b).2 ≤ Max.max a.next b.next + (a.mails.length + b.mails.length : Nat) := by
  rw [← joined_eq ha hb]
  simp only [joinedI]
  have h1 := (assignU_next (needs a b) (sortBy (·.gid) ((allM a.mails b.mails).filter fun m => !decide (m.gid ∈ joinGone a.gone b.gone))) (Max.max a.next b.next)).2
  rw [sortBy_len] at h1
  have h2 := List.length_filter_le (fun m : Mail => !decide (m.gid ∈ joinGone a.gone b.gone)) (allM a.mails b.mails)
  have h3 := allM_le a.mails b.mails
  omega
theorem joined_nodup {a b : Box} (ha : (gids a.mails).Nodup) (hb : (gids b.mails).Nodup) : (gids (joinedS a b).1).Nodup :=
  (joinedS_gids ha hb).nodup_iff.2 (by
    have := (joinGone_asc (gids a.mails) (gids b.mails)).filter (fun g => !decide (g ∈ joinGone a.gone b.gone))
    exact this.imp fun h => by omega)
theorem again_joins {a b : Box} (ha : Good a) (hb : Good b) : Joins (joinBox a b) (joinBox a b) := by
  have H := ha.joins hb
  have hin := joinBox_in H
  have h1 : (joinBox a b).gone.length ≤ 500000 := by
    unfold joinBox; split
    · have := joinGone_le a.gone b.gone; have := ha.goneL; have := hb.goneL; simp only; omega
    · exact H.ga
  have h2 : (gids (joinBox a b).mails).Nodup := by
    unfold joinBox; split
    · exact joined_nodup ha.nd hb.nd
    · exact ha.nd
  have h3 : (joinBox a b).mails.length ≤ 20 := by
    unfold joinBox; split
    · exact joined_count H
    · have := ha.len; omega
  have h4 : -1000000000 ≤ (joinBox a b).next ∧ (joinBox a b).next ≤ 1000000000 := by
    have q1 := joined_next_le ha.nd hb.nd
    have q2 := joined_next ha.nd hb.nd
    have := ha.next
    have := hb.next
    have := ha.len
    have := hb.len
    unfold joinBox; split
    · simp only; omega
    · omega
  exact ⟨hin, hin, h1, h1, h2, h2, by rw [allM_self]; exact h3, h4, h4⟩
end Mx

namespace Mx
open Go
variable {M : Nat → Option Body}
def firstB (a b : List Box) : List Box := a.map fun x => match boxIn b x.gid with | some y => joinBox x y | none => x
theorem firstB_len (a b : List Box) : (firstB a b).length = a.length := by simp [firstB]
def allB (a b : List Box) : List Box := firstB a b ++ b.filter fun x => (boxIn a x.gid).isNone
def renStep (acc : List Box) (x : Box) : List Box := acc ++ [if (acc.any fun y => decide (y.name = x.name)) = true then { x with name := otherName x.name x.gid } else x]
def ren (l : List Box) : List Box := l.foldl renStep []
def joinBoxesI (a b : List Box) (G : List Int) : List Box := ren (sortBy (·.gid) ((allB a b).filter fun x => !decide (x.gid ∈ G)))
structure GoodL (l : List Box) : Prop where
  len : l.length ≤ 5
  good : ∀ b ∈ l, Good b
structure JsS where
  i : Nat
  v : Nat
  n : Nat
def jsO (u5 : Nat) (G : List Int) (v : Nat) (rows : List (List T)) : List (Nat × Ob) := [(5, ⟨u5, 1, true, true, [[ints G]]⟩), (16, ⟨v, 7, true, false, rows⟩)]
def jpS (u5 : Nat) (a b : List Box) (G : List Int) (s : JsS) : St := { t := [(0, .c (boxes a)), (1, .c (boxes b)), (5, .c (.ptr 5 u5 0 0)), (7, .c (.row 16 s.v 0 s.i)), (8, .c (.fn 476 [])), (17, .c (boxes a)), (18, .c (I a.length)), (19, .c (I s.i))], o := jsO u5 G s.v (((firstB a b).take s.i).map encBox), n := s.n }
def jpE (u5 : Nat) (a b : List Box) (G : List Int) (s : JsS) : St := { t := [(0, .c (boxes a)), (1, .c (boxes b)), (5, .c (.ptr 5 u5 0 0)), (7, .c (.row 16 s.v 0 s.i)), (8, .c (.fn 476 [])), (17, .c (boxes a)), (18, .c (I a.length)), (19, .c (I s.i)), (20, .c (.bool false))], o := jsO u5 G s.v (((firstB a b).take s.i).map encBox), n := s.n }
structure JsK (M : Nat → Option Body) : Prop where
  copy : impl_copyBox.k M
  join : impl_JoinBox.k M
  at_ : impl_JoinBoxes_1.k M
  del : slices_DeleteFunc_impl_Box_impl_Box.k M
  c2 : impl_JoinBoxes_2.k M
  sort : slices_SortStableFunc_impl_Box_impl_Box.k M
  c3 : impl_JoinBoxes_3.k M
  has : slices_ContainsFunc_impl_Box_impl_Box.k M
  c4 : impl_JoinBoxes_4.k M
  name : impl_OtherName.k M
set_option maxHeartbeats 1000000 in
theorem jp_turn (K : JsK M) (k u5 : Nat) (a b : List Box) (G : List Int) (ha : GoodL a) (hb : GoodL b) (s : JsS) (hs : s.i < a.length) :
    ∃ v' n', exC (run M) k impl_JoinBoxes.l0 (jpS u5 a b G s) = some (.normal, jpS u5 a b G ⟨s.i + 1, v', n'⟩) := by
  obtain ⟨i, v, n⟩ := s
  simp only at hs
  have hla := ha.len
  have hlb := hb.len
  have gx := ha.good _ (List.getElem_mem hs)
  have h1 := impl_JoinBoxes_1.says K.at_ b a[i].gid (by omega)
  have e5 : IntKind.i64.wrap ((i : Int) + 1) = (i : Int) + 1 := wrap_i64 (by omega) (by omega)
  have e6 : i + 1 ≤ 4294967296 := by omega
  have hl := firstB_len a b
  have e7 : (((firstB a b).take i).map encBox).length = i := by simp [hl]; omega
  have e9 : (a.map encBox).length = a.length := by simp
  have e8 : ((firstB a b).take (i + 1)).map encBox = ((firstB a b).take i).map encBox ++ [encBox (firstB a b)[i]] := by
    rw [take_snoc _ _ (by rw [hl]; exact hs), List.map_append]; rfl
  have a1 : ∀ hh, (a.map encBox)[i]'hh = encBox a[i] := by intro hh; simp
  cases hq : boxO b a[i].gid with
  | none =>
    rw [hq] at h1
    have h2 := impl_copyBox.says K.copy a[i] gx.inB
    have ef : (firstB a b)[i]'(by rw [hl]; exact hs) = a[i] := by
      simp only [firstB, List.getElem_map, boxO_none hq]
    rw [ef] at e8
    simp only [jpS, jsO, e8]
    simp only [encBox, encBoxO, boxes, mails, ints, intO] at h1 h2 a1 ⊢
    generalize List.map encBox ((firstB a b).take i) = rr at *
    generalize a.map encBox = ra at *
    generalize b.map encBox = rb at *
    generalize a[i].mails.map encMail = rm at *
    generalize irow a[i].gone = rg at *
    generalize irow G = gj at *
    simp (maxSteps := 1000000) [impl_JoinBoxes.l0, List.range_succ, bs_get, setAt, h1, h2, hs, e5, e6, e7, e9, a1, List.take_of_length_le]
  | some q =>
    rw [hq] at h1
    obtain ⟨hq1, hq2⟩ := boxO_some hq
    have gy := hb.good _ (List.getElem_mem hq1)
    have h3 := impl_JoinBox.says K.join a[i] b[q] (gx.joins gy)
    have h2 := impl_copyBox.says K.copy (joinBox a[i] b[q]) (joinBox_in (gx.joins gy))
    have ef : (firstB a b)[i]'(by rw [hl]; exact hs) = joinBox a[i] b[q] := by
      simp only [firstB, List.getElem_map, hq2]
    rw [ef] at e8
    have e10 : (b.map encBox).length = b.length := by simp
    have a2 : ∀ hh, (b.map encBox)[q]'hh = encBox b[q] := by intro hh; simp
    simp only [jpS, jsO, e8]
    simp only [encBox, encBoxO, boxes, mails, ints, intO] at h1 h2 h3 a1 a2 ⊢
    generalize joinBox a[i] b[q] = j at *
    generalize List.map encBox ((firstB a b).take i) = rr at *
    generalize a.map encBox = ra at *
    generalize b.map encBox = rb at *
    generalize a[i].mails.map encMail = rm at *
    generalize irow a[i].gone = rg at *
    generalize b[q].mails.map encMail = rmb at *
    generalize irow b[q].gone = rgb at *
    generalize j.mails.map encMail = rmj at *
    generalize irow j.gone = rgj at *
    generalize irow G = gj at *
    simp (maxSteps := 1000000) [impl_JoinBoxes.l0, List.range_succ, bs_get, setAt, h1, h2, h3, hs, hq1, e5, e6, e7, e9, e10, a1, a2, List.take_of_length_le]
theorem jp_end (k u5 : Nat) (a b : List Box) (G : List Int) (s : JsS) (hs : ¬ s.i < a.length) :
    ∃ n', exC (run M) k impl_JoinBoxes.l0 (jpS u5 a b G s) = some (.exit 0, jpE u5 a b G ⟨s.i, s.v, n'⟩) := by
  obtain ⟨i, v, n⟩ := s
  simp only at hs
  simp only [jpS, jpE, jsO]
  generalize List.map encBox ((firstB a b).take i) = rr at *
  simp only [boxes, ints]
  generalize a.map encBox = ra at *
  generalize b.map encBox = rb at *
  simp (maxSteps := 1000000) [impl_JoinBoxes.l0, List.range_succ, bs_get, setAt, hs]
def upToB (a b : List Box) (i : Nat) : List Box := firstB a b ++ (b.take i).filter fun x => (boxIn a x.gid).isNone
theorem upToB_all (a b : List Box) : upToB a b b.length = allB a b := by simp [upToB, allB]
theorem upToB_zero (a b : List Box) : upToB a b 0 = firstB a b := by simp [upToB]
theorem upToB_len (a b : List Box) (i : Nat) (hi : i ≤ b.length) : (upToB a b i).length ≤ a.length + i := by
  have := List.length_filter_le (fun x : Box => (boxIn a x.gid).isNone) (b.take i)
  simp only [upToB, List.length_append, firstB_len]
  simp at this; omega
def jqS (u5 : Nat) (a b : List Box) (G : List Int) (s : JsS) : St := { t := [(0, .c (boxes a)), (5, .c (.ptr 5 u5 0 0)), (7, .c (.row 16 s.v 0 (upToB a b s.i).length)), (8, .c (.fn 476 [])), (42, .c (boxes b)), (43, .c (I b.length)), (44, .c (I s.i))], o := jsO u5 G s.v ((upToB a b s.i).map encBox), n := s.n }
def jqE (u5 : Nat) (a b : List Box) (G : List Int) (s : JsS) : St := { t := [(0, .c (boxes a)), (5, .c (.ptr 5 u5 0 0)), (7, .c (.row 16 s.v 0 (upToB a b s.i).length)), (8, .c (.fn 476 [])), (42, .c (boxes b)), (43, .c (I b.length)), (44, .c (I s.i)), (45, .c (.bool false))], o := jsO u5 G s.v ((upToB a b s.i).map encBox), n := s.n }
set_option maxHeartbeats 1000000 in
theorem jq_turn (K : JsK M) (k u5 : Nat) (a b : List Box) (G : List Int) (ha : GoodL a) (hb : GoodL b) (s : JsS) (hs : s.i < b.length) :
    ∃ v' n', exC (run M) k impl_JoinBoxes.l1 (jqS u5 a b G s) = some (.normal, jqS u5 a b G ⟨s.i + 1, v', n'⟩) := by
  obtain ⟨i, v, n⟩ := s
  simp only at hs
  have hla := ha.len
  have hlb := hb.len
  have gx := hb.good _ (List.getElem_mem hs)
  have h1 := impl_JoinBoxes_1.says K.at_ a b[i].gid (by omega)
  have e5 : IntKind.i64.wrap ((i : Int) + 1) = (i : Int) + 1 := wrap_i64 (by omega) (by omega)
  have hl := upToB_len a b i (by omega)
  have e7 : ((upToB a b i).map encBox).length = (upToB a b i).length := by simp
  have e6 : (upToB a b i).length + 1 ≤ 4294967296 := by omega
  have e9 : (b.map encBox).length = b.length := by simp
  have a1 : ∀ hh, (b.map encBox)[i]'hh = encBox b[i] := by intro hh; simp
  have eu : upToB a b (i + 1) = upToB a b i ++ if (boxIn a b[i].gid).isNone = true then [b[i]] else [] := by
    simp only [upToB, take_snoc _ _ hs, List.filter_append, List.append_assoc]
    cases q : (boxIn a b[i].gid).isNone <;> simp [q]
  cases hq : boxO a b[i].gid with
  | some q =>
    rw [hq] at h1
    obtain ⟨hq1, hq2⟩ := boxO_some hq
    have nq : ¬ (q : Int) < 0 := by omega
    rw [hq2] at eu
    simp only [Option.isNone_some, Bool.false_eq_true, if_false, List.append_nil] at eu
    simp only [jqS, jsO, eu]
    simp only [encBox, encBoxO, boxes, mails, ints, intO] at h1 a1 ⊢
    generalize List.map encBox (upToB a b i) = rr at *
    generalize (upToB a b i).length = nr at *
    generalize a.map encBox = ra at *
    generalize b.map encBox = rb at *
    generalize b[i].mails.map encMail = rm at *
    generalize irow b[i].gone = rg at *
    generalize irow G = gj at *
    simp (maxSteps := 1000000) [impl_JoinBoxes.l1, List.range_succ, bs_get, setAt, h1, hs, nq, e5, e6, e7, e9, a1, List.take_of_length_le]
  | none =>
    rw [hq] at h1
    have h2 := impl_copyBox.says K.copy b[i] gx.inB
    rw [boxO_none hq] at eu
    simp only [Option.isNone_none, if_true] at eu
    simp only [jqS, jsO, eu, List.map_append, List.map_cons, List.map_nil, List.length_append, List.length_singleton]
    simp only [encBox, encBoxO, boxes, mails, ints, intO] at h1 h2 a1 ⊢
    generalize List.map encBox (upToB a b i) = rr at *
    generalize (upToB a b i).length = nr at *
    generalize a.map encBox = ra at *
    generalize b.map encBox = rb at *
    generalize b[i].mails.map encMail = rm at *
    generalize irow b[i].gone = rg at *
    generalize irow G = gj at *
    simp (maxSteps := 1000000) [impl_JoinBoxes.l1, List.range_succ, bs_get, setAt, h1, h2, hs, e5, e6, e7, e9, a1, List.take_of_length_le]
theorem jq_end (k u5 : Nat) (a b : List Box) (G : List Int) (s : JsS) (hs : ¬ s.i < b.length) :
    ∃ n', exC (run M) k impl_JoinBoxes.l1 (jqS u5 a b G s) = some (.exit 2, jqE u5 a b G ⟨s.i, s.v, n'⟩) := by
  obtain ⟨i, v, n⟩ := s
  simp only at hs
  simp only [jqS, jqE, jsO]
  generalize List.map encBox (upToB a b i) = rr at *
  simp only [boxes, ints]
  generalize a.map encBox = ra at *
  generalize b.map encBox = rb at *
  simp (maxSteps := 1000000) [impl_JoinBoxes.l1, List.range_succ, bs_get, setAt, hs]
end Mx

namespace Mx
open Go
variable {M : Nat → Option Body}
def renOne (acc : List Box) (x : Box) : Box := if (acc.any fun y => decide (y.name = x.name)) = true then { x with name := otherName x.name x.gid } else x
theorem renStep_eq (acc : List Box) (x : Box) : renStep acc x = acc ++ [renOne acc x] := rfl
theorem ren_snoc (l : List Box) (x : Box) : ren (l ++ [x]) = ren l ++ [renOne (ren l) x] := by
  unfold ren; rw [List.foldl_append]; rfl
theorem ren_fold_len : ∀ (l acc : List Box), (l.foldl renStep acc).length = acc.length + l.length
  | [], acc => by simp
  | x :: l, acc => by
    rw [List.foldl_cons, ren_fold_len l, renStep_eq]
    simp; omega
theorem ren_len (l : List Box) : (ren l).length = l.length := by unfold ren; rw [ren_fold_len]; simp
def renTo (l : List Box) (i : Nat) : List Box := ren (l.take i) ++ l.drop i
theorem renTo_zero (l : List Box) : renTo l 0 = l := by simp [renTo, ren]
theorem renTo_all (l : List Box) : renTo l l.length = ren l := by simp [renTo]
theorem renTo_len (l : List Box) (i : Nat) : (renTo l i).length = l.length := by
  simp only [renTo, List.length_append, ren_len, List.length_take, List.length_drop]; omega
theorem renTo_at (l : List Box) (i : Nat) (h : i < l.length) : (renTo l i)[i]'(by rw [renTo_len]; exact h) = l[i] := by
  have e : (ren (l.take i)).length = i := by rw [ren_len]; simp; omega
  simp only [renTo]
  rw [List.getElem_append_right (by omega)]
  simp [e]
theorem renTo_succ (l : List Box) (i : Nat) (h : i < l.length) : renTo l (i + 1) = (renTo l i).set i (renOne (ren (l.take i)) l[i]) := by
  have e : (ren (l.take i)).length = i := by rw [ren_len]; simp; omega
  have hd : l.drop i = l[i] :: l.drop (i + 1) := List.drop_eq_getElem_cons h
  simp only [renTo, take_snoc l i h, ren_snoc]
  rw [List.set_append_right _ _ (by omega), e, Nat.sub_self]
  simp
  rw [hd]; rfl
def jrS (L : List Box) (Z : List (List T)) (s : JsS) : St := { t := [(7, .c (.row 16 s.v 0 L.length)), (65, .c (.row 16 s.v 0 L.length)), (66, .c (I L.length)), (67, .c (I s.i))], o := [(16, ⟨s.v, 7, true, false, (renTo L s.i).map encBox ++ Z⟩)], n := s.n }
def jrE (L : List Box) (Z : List (List T)) (s : JsS) : St := { t := [(7, .c (.row 16 s.v 0 L.length)), (65, .c (.row 16 s.v 0 L.length)), (66, .c (I L.length)), (67, .c (I s.i)), (68, .c (.bool false))], o := [(16, ⟨s.v, 7, true, false, (renTo L s.i).map encBox ++ Z⟩)], n := s.n }
set_option maxHeartbeats 1000000 in
theorem jr_turn (K : JsK M) (k : Nat) (L : List Box) (Z : List (List T)) (hL : L.length ≤ 1048576) (hb : ∀ b ∈ L, b.name.length ≤ 1048576 ∧ b.gid ≤ 9223372036854775807) (s : JsS) (hs : s.i < L.length) :
    ∃ n', exC (run M) k impl_JoinBoxes.l2 (jrS L Z s) = some (.normal, jrS L Z ⟨s.i + 1, s.v, n'⟩) := by
  obtain ⟨i, v, n⟩ := s
  simp only at hs
  have hx := hb _ (List.getElem_mem hs)
  have hr1 : (ren (L.take i)).length = i := by rw [ren_len]; simp; omega
  have h1 := slices_ContainsFunc_impl_Box_impl_Box.says K.has (fun y => impl_JoinBoxes_4.says K.c4 y L[i]) (ren (L.take i)) (by omega)
  have h2 := impl_OtherName.says K.name L[i].name L[i].gid hx.1 hx.2
  have e5 : IntKind.i64.wrap ((i : Int) + 1) = (i : Int) + 1 := wrap_i64 (by omega) (by omega)
  have el : ((renTo L i).map encBox).length = L.length := by simp [renTo_len]
  have e7 : i < ((renTo L i).map encBox ++ Z).length := by simp [renTo_len]; omega
  have e8 : i ≤ ((renTo L i).map encBox ++ Z).length := by omega
  have a1 : ∀ hh, ((renTo L i).map encBox ++ Z)[i]'hh = encBox L[i] := by
    intro hh
    rw [List.getElem_append_left (by omega)]
    simp only [List.getElem_map, renTo_at L i hs]
  have e9 : ((renTo L i).map encBox ++ Z).take i = (ren (L.take i)).map encBox := by
    rw [List.take_append_of_le_length (by omega), ← List.map_take]
    congr 1
    simp only [renTo]
    rw [List.take_append_of_le_length (by omega)]
    exact List.take_of_length_le (by omega)
  have t3 : (renTo L (i + 1)).map encBox ++ Z = ((renTo L i).map encBox ++ Z).set i (encBox (renOne (ren (L.take i)) L[i])) := by
    rw [renTo_succ L i hs, List.map_set, List.set_append_left _ _ (by omega)]
  have e10 : i ≤ L.length := by omega
  simp only [jrS, t3]
  clear t3 el
  unfold renOne
  generalize (ren (L.take i)).any (fun y => decide (y.name = L[i].name)) = w at *
  simp only [boxes] at h1
  generalize (ren (L.take i)).map encBox = rp at *
  generalize (renTo L i).map encBox ++ Z = rr at *
  generalize otherName L[i].name L[i].gid = nm at *
  simp only [encBox, mails, ints] at h1 a1 ⊢
  generalize L[i] = x at *
  generalize L.length = N at *
  generalize hm : x.mails.map encMail = rm at *
  generalize hg : irow x.gone = rg at *
  cases w
  · simp only [Bool.false_eq_true, if_false]
    rw [hm, hg]
    have e11 : rr.set i [I x.gid, S x.name, I x.time, I x.who, I x.next, T.sl false 4 rm, T.sl false 1 rg] = rr := by
      rw [← a1 e7, List.set_getElem_self]
    rw [e11]
    simp (maxSteps := 1000000) [impl_JoinBoxes.l2, List.range_succ, bs_get, setAt, hs, h1, e5, e7, e8, e9, e10, a1, List.take_of_length_le]
  · simp only [if_true]
    rw [hm, hg]
    simp (maxSteps := 1000000) [impl_JoinBoxes.l2, List.range_succ, bs_get, setAt, hs, h1, h2, e5, e7, e8, e9, e10, a1, List.take_of_length_le]
theorem jr_end (k : Nat) (L : List Box) (Z : List (List T)) (s : JsS) (hs : ¬ s.i < L.length) :
    ∃ n', exC (run M) k impl_JoinBoxes.l2 (jrS L Z s) = some (.exit 4, jrE L Z ⟨s.i, s.v, n'⟩) := by
  obtain ⟨i, v, n⟩ := s
  simp only at hs
  simp only [jrS, jrE]
  generalize (renTo L i).map encBox ++ Z = rr at *
  simp (maxSteps := 1000000) [impl_JoinBoxes.l2, List.range_succ, bs_get, setAt, hs]
theorem jp_loop (K : JsK M) (k u5 : Nat) (a b : List Box) (G : List Int) (ha : GoodL a) (hb : GoodL b) (v n : Nat) (hk : a.length < k) :
    ∃ v' n', loopN (exC (run M) k impl_JoinBoxes.l0) k (jpS u5 a b G ⟨0, v, n⟩) = some (.exit 0, jpE u5 a b G ⟨a.length, v', n'⟩) := by
  obtain ⟨r, hr, ⟨⟨i, v', n'⟩, rfl, hi⟩⟩ := loop_ex (f := exC (run M) k impl_JoinBoxes.l0) (jpS u5 a b G) (fun s => s.i ≤ a.length) (fun s => a.length - s.i) (fun r => ∃ s', r = (.exit 0, jpE u5 a b G s') ∧ s'.i = a.length)
    (fun s hs => by
      by_cases c : s.i < a.length
      · left
        obtain ⟨v', n', hh⟩ := jp_turn K k u5 a b G ha hb s c
        exact ⟨_, hh, by simp only; omega, by simp only; omega⟩
      · right
        obtain ⟨n', hh⟩ := jp_end (M := M) k u5 a b G s c
        exact ⟨_, hh, by simp, _, rfl, by simp only; omega⟩) k ⟨0, v, n⟩ (by simp) (by simp only; omega)
  simp only at hi
  subst hi
  exact ⟨v', n', hr⟩
theorem jq_loop (K : JsK M) (k u5 : Nat) (a b : List Box) (G : List Int) (ha : GoodL a) (hb : GoodL b) (v n : Nat) (hk : b.length < k) :
    ∃ v' n', loopN (exC (run M) k impl_JoinBoxes.l1) k (jqS u5 a b G ⟨0, v, n⟩) = some (.exit 2, jqE u5 a b G ⟨b.length, v', n'⟩) := by
  obtain ⟨r, hr, ⟨⟨i, v', n'⟩, rfl, hi⟩⟩ := loop_ex (f := exC (run M) k impl_JoinBoxes.l1) (jqS u5 a b G) (fun s => s.i ≤ b.length) (fun s => b.length - s.i) (fun r => ∃ s', r = (.exit 2, jqE u5 a b G s') ∧ s'.i = b.length)
    (fun s hs => by
      by_cases c : s.i < b.length
      · left
        obtain ⟨v', n', hh⟩ := jq_turn K k u5 a b G ha hb s c
        exact ⟨_, hh, by simp only; omega, by simp only; omega⟩
      · right
        obtain ⟨n', hh⟩ := jq_end (M := M) k u5 a b G s c
        exact ⟨_, hh, by simp, _, rfl, by simp only; omega⟩) k ⟨0, v, n⟩ (by simp) (by simp only; omega)
  simp only at hi
  subst hi
  exact ⟨v', n', hr⟩
theorem jr_loop (K : JsK M) (k : Nat) (L : List Box) (Z : List (List T)) (hL : L.length ≤ 1048576) (hb : ∀ b ∈ L, b.name.length ≤ 1048576 ∧ b.gid ≤ 9223372036854775807) (v n : Nat) (hk : L.length < k) :
    ∃ n', loopN (exC (run M) k impl_JoinBoxes.l2) k (jrS L Z ⟨0, v, n⟩) = some (.exit 4, jrE L Z ⟨L.length, v, n'⟩) := by
  obtain ⟨r, hr, ⟨⟨i, v', n'⟩, rfl, hi, hv⟩⟩ := loop_ex (f := exC (run M) k impl_JoinBoxes.l2) (jrS L Z) (fun s => s.i ≤ L.length ∧ s.v = v) (fun s => L.length - s.i) (fun r => ∃ s', r = (.exit 4, jrE L Z s') ∧ s'.i = L.length ∧ s'.v = v)
    (fun s hs => by
      by_cases c : s.i < L.length
      · left
        obtain ⟨n', hh⟩ := jr_turn K k L Z hL hb s c
        exact ⟨_, hh, ⟨by simp only; omega, hs.2⟩, by simp only; omega⟩
      · right
        obtain ⟨n', hh⟩ := jr_end (M := M) k L Z s c
        have := hs.1
        exact ⟨_, hh, by simp, _, rfl, by simp only; omega, hs.2⟩) k ⟨0, v, n⟩ ⟨by simp, rfl⟩ (by simp only; omega)
  simp only at hi hv
  subst hi
  subst hv
  exact ⟨n', hr⟩
theorem boxIn_some {l : List Box} {g : Int} {b : Box} (h : boxIn l g = some b) : b ∈ l ∧ b.gid = g := ⟨List.mem_of_find?_eq_some h, by simpa using List.find?_some h⟩
/-- a box of both: from one side, or joined -/
theorem allB_mem {a b : List Box} (x : Box) (h : x ∈ allB a b) : x ∈ a ∨ x ∈ b ∨ ∃ y ∈ a, ∃ z ∈ b, y.gid = z.gid ∧ x = joinBox y z := by
  rcases List.mem_append.1 h with q | q
  · obtain ⟨y, hy, e⟩ := List.mem_map.1 q
    cases hz : boxIn b y.gid with
    | none => rw [hz] at e; simp only at e; subst e; exact .inl hy
    | some z =>
      rw [hz] at e; simp only at e
      obtain ⟨h1, h2⟩ := boxIn_some hz
      exact .inr (.inr ⟨y, hy, z, h1, h2.symm, e.symm⟩)
  · exact .inr (.inl (List.mem_filter.1 q).1)
theorem joinBox_name (a b : Box) : (joinBox a b).name = a.name ∨ (joinBox a b).name = b.name := by
  unfold joinBox
  split
  · simp only; split
    · exact .inr rfl
    · exact .inl rfl
  · exact .inl rfl
theorem joinBox_gid (a b : Box) : (joinBox a b).gid = a.gid := by unfold joinBox; split <;> rfl
theorem allB_names {a b : List Box} (ha : GoodL a) (hb : GoodL b) (x : Box) (h : x ∈ allB a b) : x.name.length ≤ 12 ∧ x.gid ≤ 9999 := by
  have hg : ∀ {c : Box}, Good c → c.name.length ≤ 12 ∧ c.gid ≤ 9999 := fun {c} hc => ⟨(nameOk_len hc.name).2, hc.gid.2⟩
  rcases allB_mem x h with q | q | ⟨y, hy, z, hz, e, rfl⟩
  · exact hg (ha.good x q)
  · exact hg (hb.good x q)
  · have h1 := hg (ha.good y hy)
    have h2 := hg (hb.good z hz)
    rw [joinBox_gid]
    rcases joinBox_name y z with q | q <;> rw [q]
    · exact h1
    · exact ⟨h2.1, h1.2⟩
theorem allB_len (a b : List Box) : (allB a b).length ≤ a.length + b.length := by
  have := List.length_filter_le (fun x : Box => (boxIn a x.gid).isNone) b
  simp only [allB, List.length_append, firstB_len]; omega
set_option maxHeartbeats 4000000 in
theorem impl_JoinBoxes.says (h : impl_JoinBoxes.k M) (a b : List Box) (G : List Int) (ha : GoodL a) (hb : GoodL b) (hG : G.length ≤ 4194304) :
    run M 467 [.c (boxes a), .c (boxes b), .c (ints G)] [] = some (.c (.sl true 7 ((joinBoxesI a b G).map encBox)), []) := by
  obtain ⟨h0, k1, k2, k3, k4, k5, k6, k7, k8, k9, k10⟩ := h
  have K : JsK M := ⟨k1, k2, k3, k4, k5, k6, k7, k8, k9, k10⟩
  have hla := ha.len
  have hlb := hb.len
  refine run_code (b := impl_JoinBoxes.m) h0 ⟨a.length + b.length + 21, ?_⟩
  generalize hk : a.length + b.length + 21 = k
  obtain ⟨v1, n1, r1⟩ := jp_loop K k 2000000 a b G ha hb 2000032 2000128 (by omega)
  obtain ⟨v2, n2, r2⟩ := jq_loop K k 2000000 a b G ha hb v1 (n1 + 48) (by omega)
  have hc2 := fun x => impl_JoinBoxes_2.says k5 x G hG
  have hal := allB_len a b
  have h5 := slices_DeleteFunc_impl_Box_impl_Box.says k4 hc2 (allB a b) (by omega)
  have hkl : ((allB a b).filter fun x => !decide (x.gid ∈ G)).length ≤ (allB a b).length := List.length_filter_le _ _
  have hnm : ∀ x ∈ sortBy (fun x : Box => x.gid) ((allB a b).filter fun x => !decide (x.gid ∈ G)), x.name.length ≤ 1048576 ∧ x.gid ≤ 9223372036854775807 := fun x hx => by
    have := allB_names ha hb x (List.mem_filter.1 (sortBy_mem.1 hx)).1
    omega
  unfold joinBoxesI
  generalize hz : List.replicate ((allB a b).length - ((allB a b).filter fun x => !decide (x.gid ∈ G)).length) bzero = Z at *
  generalize hl1 : ((allB a b).filter fun x => !decide (x.gid ∈ G)) = l1 at *
  have h6 := slices_SortStableFunc_impl_Box_impl_Box.says k6 (k := fun x : Box => x.gid) (impl_JoinBoxes_3.says k7) l1 Z (by omega)
  have hl2 : (sortBy (fun x : Box => x.gid) l1).length = l1.length := sortBy_len _
  generalize hs2 : sortBy (fun x : Box => x.gid) l1 = l2 at *
  obtain ⟨n3, r3⟩ := jr_loop K k l2 Z (by omega) hnm v2 (n2 + 64 + 32 + 48) (by omega)
  have el0 : ((allB a b).map encBox).length = (allB a b).length := by simp
  have el1 : l1.length ≤ (l1.map encBox ++ Z).length := by simp
  have el2 : l1.length ≤ (l2.map encBox ++ Z).length := by simp [hl2]
  have el4 : l1.length ≤ ((ren l2).map encBox ++ Z).length := by simp [ren_len, hl2]
  have el5 : (((ren l2).map encBox ++ Z).take l1.length) = (ren l2).map encBox := by
    rw [List.take_append_of_le_length (by simp [ren_len, hl2])]
    exact List.take_of_length_le (by simp [ren_len, hl2])
  have hfl := firstB_len a b
  have ea : (a.map encBox).length = a.length := by simp
  have eb : (b.map encBox).length = b.length := by simp
  have ez : ((0 : Nat) : Int) = 0 := rfl
  have hfa : (firstB a b).take a.length = firstB a b := List.take_of_length_le (by omega)
  simp only [jpS, jpE, jsO, List.take_zero, List.map_nil, hfa, ez] at r1
  simp only [jqS, jqE, jsO, upToB_zero, upToB_all, hfl, ez] at r2
  have hra : renTo l2 l1.length = ren l2 := by rw [← hl2]; exact renTo_all l2
  simp only [jrS, jrE, renTo_zero, ez, hl2, hra] at r3
  simp only [bRow, List.append_nil] at h5 h6
  generalize (ren l2).map encBox = R4 at *
  generalize R4 ++ Z = R4Z at *
  generalize l2.map encBox ++ Z = R2Z at *
  generalize l1.map encBox ++ Z = R1Z at *
  clear hl1 hs2 hz hc2 K hnm hl2 hra
  generalize (allB a b).map encBox = R0 at *
  generalize (allB a b).length = N0 at *
  generalize (firstB a b).map encBox = RF at *
  generalize l1.length = N1 at *
  simp only [boxes, ints] at *
  generalize a.map encBox = ra at *
  generalize b.map encBox = rb at *
  generalize irow G = rg at *
  simp (maxSteps := 1000000) [exB, impl_JoinBoxes.m, impl_JoinBoxes.b, List.range_succ, bs_get, setAt, r1, r2, r3, h5, h6, ea, eb, el0, el1, el2, el4, el5, List.take_of_length_le]
end Mx

namespace Mx
open Go
variable {M : Nat → Option Body}
def gidsB (l : List Box) : List Int := l.map (·.gid)
theorem gidsB_fold (l : List Box) (s : List Int) : l.foldl (fun s m => gadd s m.gid) s = (gidsB l).foldl gadd s := by
  simp only [gidsB, List.foldl_map]
def nbS (a b : List Box) (G : List Int) (i : Nat) (s : List Int) (x : Nat × Nat) : St := { t := [(0, .c (boxes a)), (1, .c (boxes b)), (2, .c (ints G)), (7, .c (.row 16 x.1 0 s.length)), (8, .c (I i))], o := [(16, ⟨x.1, 1, true, false, irow s⟩)], n := x.2 }
def nbE (a b : List Box) (G : List Int) (s : List Int) (x : Nat × Nat) : St := { t := [(0, .c (boxes a)), (1, .c (boxes b)), (2, .c (ints G)), (7, .c (.row 16 x.1 0 s.length)), (8, .c (I a.length)), (20, .c (.bool false))], o := [(16, ⟨x.1, 1, true, false, irow s⟩)], n := x.2 }
def ncS (a b : List Box) (G : List Int) (i : Nat) (s : List Int) (x : Nat × Nat) : St := { t := [(0, .c (boxes a)), (1, .c (boxes b)), (2, .c (ints G)), (7, .c (.row 16 x.1 0 s.length)), (9, .c (I i))], o := [(16, ⟨x.1, 1, true, false, irow s⟩)], n := x.2 }
def ncE (a b : List Box) (G : List Int) (s : List Int) (x : Nat × Nat) : St := { t := [(0, .c (boxes a)), (1, .c (boxes b)), (2, .c (ints G)), (7, .c (.row 16 x.1 0 s.length)), (9, .c (I b.length)), (41, .c (.bool false))], o := [(16, ⟨x.1, 1, true, false, irow s⟩)], n := x.2 }
set_option maxHeartbeats 1000000 in
theorem nb_loop (kin : spec_l06In.k M) (kput : spec_l06Put.k M) (k : Nat) (a b : List Box) (G : List Int) (ha : a.length ≤ 5) (hk : a.length < k) (x : Nat × Nat) :
    ∃ y, loopN (exC (run M) k spec_JoinBoxes.l0) k (nbS a b G 0 [] x) = some (.exit 0, nbE a b G (a.foldl (fun s m => gadd s m.gid) []) y) := by
  obtain ⟨g, hr⟩ := fold_loop (f := exC (run M) k spec_JoinBoxes.l0) a (fun s m => gadd s m.gid) (fun i s => s.length ≤ i) (nbS a b G) 0 (nbE a b G)
    (fun i h s hs => by have := gadd_le s a[i].gid; omega)
    (fun i hi s x hs => by
      obtain ⟨v, n⟩ := x
      have e5 : IntKind.i64.wrap ((i : Int) + 1) = (i : Int) + 1 := wrap_i64 (by omega) (by omega)
      have e9 := irow_length s
      have hra : (a.map encBox).length = a.length := by simp
      have h1 := spec_l06In.says kin s a[i].gid (by omega)
      have h2 := spec_l06Put.says kput s a[i].gid (by omega)
      have a1 : ∀ hh, (a.map encBox)[i]'hh = encBox a[i] := by intro hh; simp
      have e10 := irow_length (gput s a[i].gid)
      have hfl := irow_scalar (gput s a[i].gid)
      simp only [Prod.exists, gadd]
      by_cases c : a[i].gid ∈ s
      · rw [decide_eq_true c] at h1
        rw [if_pos c]
        simp only [nbS]
        simp only [encBox, boxes, mails, ints] at a1 h1 ⊢
        generalize irow s = rs at *
        generalize a.map encBox = ra at *
        generalize b.map encBox = rb at *
        simp (maxSteps := 1000000) [spec_JoinBoxes.l0, List.range_succ, bs_get, setAt, hra, hi, h1, a1, e5, e9, List.take_of_length_le]
      · rw [decide_eq_false c] at h1
        rw [if_neg c]
        simp only [nbS]
        simp only [encBox, boxes, mails, ints] at a1 h1 h2 ⊢
        generalize irow (gput s a[i].gid) = rp at *
        generalize irow s = rs at *
        generalize a.map encBox = ra at *
        generalize b.map encBox = rb at *
        simp (maxSteps := 1000000) [spec_JoinBoxes.l0, List.range_succ, bs_get, setAt, hra, hi, h1, h2, a1, e5, e9, e10, hfl, List.take_of_length_le])
    (fun s x hs => by
      obtain ⟨v, n⟩ := x
      have hra : (a.map encBox).length = a.length := by simp
      simp only [Prod.exists, nbS, nbE, boxes, ints]
      generalize a.map encBox = ra at *
      generalize b.map encBox = rb at *
      simp (maxSteps := 1000000) [spec_JoinBoxes.l0, List.range_succ, bs_get, setAt, hra]) [] (by simp)
  exact ⟨_, loopN_le (hr x) (by omega)⟩
set_option maxHeartbeats 1000000 in
theorem nc_loop (kin : spec_l06In.k M) (kput : spec_l06Put.k M) (k : Nat) (a b : List Box) (G : List Int) (hb : b.length ≤ 5) (hk : b.length < k) (s0 : List Int) (h0 : s0.length ≤ 5) (x : Nat × Nat) :
    ∃ y, loopN (exC (run M) k spec_JoinBoxes.l1) k (ncS a b G 0 s0 x) = some (.exit 2, ncE a b G (b.foldl (fun s m => gadd s m.gid) s0) y) := by
  obtain ⟨g, hr⟩ := fold_loop (f := exC (run M) k spec_JoinBoxes.l1) b (fun s m => gadd s m.gid) (fun i s => s.length ≤ 5 + i) (ncS a b G) 2 (ncE a b G)
    (fun i h s hs => by have := gadd_le s b[i].gid; omega)
    (fun i hi s x hs => by
      obtain ⟨v, n⟩ := x
      have e5 : IntKind.i64.wrap ((i : Int) + 1) = (i : Int) + 1 := wrap_i64 (by omega) (by omega)
      have e9 := irow_length s
      have hra : (b.map encBox).length = b.length := by simp
      have h1 := spec_l06In.says kin s b[i].gid (by omega)
      have h2 := spec_l06Put.says kput s b[i].gid (by omega)
      have a1 : ∀ hh, (b.map encBox)[i]'hh = encBox b[i] := by intro hh; simp
      have e10 := irow_length (gput s b[i].gid)
      have hfl := irow_scalar (gput s b[i].gid)
      simp only [Prod.exists, gadd]
      by_cases c : b[i].gid ∈ s
      · rw [decide_eq_true c] at h1
        rw [if_pos c]
        simp only [ncS]
        simp only [encBox, boxes, mails, ints] at a1 h1 ⊢
        generalize irow s = rs at *
        generalize a.map encBox = ra at *
        generalize b.map encBox = rb at *
        simp (maxSteps := 1000000) [spec_JoinBoxes.l1, List.range_succ, bs_get, setAt, hra, hi, h1, a1, e5, e9, List.take_of_length_le]
      · rw [decide_eq_false c] at h1
        rw [if_neg c]
        simp only [ncS]
        simp only [encBox, boxes, mails, ints] at a1 h1 h2 ⊢
        generalize irow (gput s b[i].gid) = rp at *
        generalize irow s = rs at *
        generalize a.map encBox = ra at *
        generalize b.map encBox = rb at *
        simp (maxSteps := 1000000) [spec_JoinBoxes.l1, List.range_succ, bs_get, setAt, hra, hi, h1, h2, a1, e5, e9, e10, hfl, List.take_of_length_le])
    (fun s x hs => by
      obtain ⟨v, n⟩ := x
      have hra : (b.map encBox).length = b.length := by simp
      simp only [Prod.exists, ncS, ncE, boxes, ints]
      generalize a.map encBox = ra at *
      generalize b.map encBox = rb at *
      simp (maxSteps := 1000000) [spec_JoinBoxes.l1, List.range_succ, bs_get, setAt, hra]) s0 (by omega)
  exact ⟨_, loopN_le (hr x) (by omega)⟩
def joinB (a b : List Box) (g : Int) : Box := match boxIn a g, boxIn b g with
  | some x, some y => joinBox x y
  | some x, none => x
  | none, some y => y
  | none, none => ⟨0, [], 0, 0, 0, [], []⟩
def stepB (a b : List Box) (G : List Int) (out : List Box) (g : Int) : List Box := if g ∈ G then out else out ++ [joinB a b g]
def ndS (a b : List Box) (G gs : List Int) (v16 : Nat) (i : Nat) (out : List Box) (x : Nat × Nat) : St := { t := [(0, .c (boxes a)), (1, .c (boxes b)), (2, .c (ints G)), (7, .c (.row 16 v16 0 gs.length)), (10, .c (.row 59 x.1 0 out.length)), (11, .c (I i))], o := [(16, ⟨v16, 1, true, false, irow gs⟩), (59, ⟨x.1, 7, true, false, out.map encBox⟩)], n := x.2 }
def ndE (a b : List Box) (G gs : List Int) (v16 : Nat) (out : List Box) (x : Nat × Nat) : St := { t := [(0, .c (boxes a)), (1, .c (boxes b)), (2, .c (ints G)), (7, .c (.row 16 v16 0 gs.length)), (10, .c (.row 59 x.1 0 out.length)), (11, .c (I gs.length)), (63, .c (.bool false))], o := [(16, ⟨v16, 1, true, false, irow gs⟩), (59, ⟨x.1, 7, true, false, out.map encBox⟩)], n := x.2 }
structure NdK (M : Nat → Option Body) : Prop where
  inn : spec_l06In.k M
  copy : spec_l06Copy.k M
  join : spec_JoinBox.k M
  at_ : spec_l09At.k M
theorem nd_end (k : Nat) (a b : List Box) (G gs : List Int) (v16 : Nat) (out : List Box) (x : Nat × Nat) :
    ∃ y, exC (run M) k spec_JoinBoxes.l2 (ndS a b G gs v16 gs.length out x) = some (.exit 4, ndE a b G gs v16 out y) := by
  obtain ⟨v, n⟩ := x
  simp only [Prod.exists, ndS, ndE, boxes, ints]
  generalize a.map encBox = ra at *
  generalize b.map encBox = rb at *
  generalize out.map encBox = ro at *
  simp (maxSteps := 1000000) [spec_JoinBoxes.l2, List.range_succ, bs_get, setAt]
set_option maxHeartbeats 2000000 in
theorem nd_turn (K : NdK M) (k : Nat) (a b : List Box) (ha : GoodL a) (hb : GoodL b) (G gs : List Int) (hG : G.length ≤ 4194304) (hgs : gs.length ≤ 100) (hmem : ∀ g ∈ gs, g ∈ gidsB a ∨ g ∈ gidsB b) (v16 i : Nat) (hi : i < gs.length) (out : List Box) (ho : out.length ≤ i) (x : Nat × Nat) :
    ∃ y, exC (run M) k spec_JoinBoxes.l2 (ndS a b G gs v16 i out x) = some (.normal, ndS a b G gs v16 (i + 1) (stepB a b G out gs[i]) y) := by
  obtain ⟨v, n⟩ := x
  have hla := ha.len
  have hlb := hb.len
  have h1 := spec_l06In.says K.inn G gs[i] (by omega)
  have h2 := spec_l09At.says K.at_ a gs[i] (by omega)
  have h3 := spec_l09At.says K.at_ b gs[i] (by omega)
  have e5 : IntKind.i64.wrap ((i : Int) + 1) = (i : Int) + 1 := wrap_i64 (by omega) (by omega)
  have e6 : out.length + 1 ≤ 4294967296 := by omega
  have eg := irow_length gs
  have a0 : ∀ hh, (irow gs)[i]'hh = [I gs[i]] := by intro hh; simp [irow]
  have eo : (out.map encBox).length = out.length := by simp
  have ea : (a.map encBox).length = a.length := by simp
  have eb : (b.map encBox).length = b.length := by simp
  simp only [Prod.exists]
  unfold stepB
  by_cases c : gs[i] ∈ G
  · rw [decide_eq_true c] at h1
    rw [if_pos c]
    simp only [ndS]
    simp only [boxes, ints] at *
    generalize irow gs = rg at *
    generalize irow G = rG at *
    generalize a.map encBox = ra at *
    generalize b.map encBox = rb at *
    generalize out.map encBox = ro at *
    simp (maxSteps := 1000000) [spec_JoinBoxes.l2, List.range_succ, bs_get, setAt, hi, h1, e5, eg, a0, List.take_of_length_le]
  · rw [decide_eq_false c] at h1
    rw [if_neg c]
    cases hp : boxO a gs[i] with
    | some p =>
      obtain ⟨p1, p2⟩ := boxO_some hp
      have gp := ha.good _ (List.getElem_mem p1)
      have a1 : ∀ hh, (a.map encBox)[p]'hh = encBox a[p] := by intro hh; simp
      rw [hp] at h2
      cases hq : boxO b gs[i] with
      | some q =>
        obtain ⟨q1, q2⟩ := boxO_some hq
        have gq := hb.good _ (List.getElem_mem q1)
        have a2 : ∀ hh, (b.map encBox)[q]'hh = encBox b[q] := by intro hh; simp
        rw [hq] at h3
        have h4 := spec_JoinBox.says K.join a[p] b[q] (gp.joins gq)
        have ej : joinB a b gs[i] = joinBox a[p] b[q] := by simp only [joinB, p2, q2]
        rw [ej]
        simp only [ndS, List.map_append, List.map_cons, List.map_nil, List.length_append, List.length_singleton]
        simp only [encBox, encBoxO, boxes, mails, ints, intO] at h1 h2 h3 h4 a1 a2 ⊢
        generalize joinBox a[p] b[q] = j at *
        generalize irow gs = rg at *
        generalize irow G = rG at *
        generalize a.map encBox = ra at *
        generalize b.map encBox = rb at *
        generalize out.map encBox = ro at *
        generalize a[p].mails.map encMail = r1 at *
        generalize irow a[p].gone = r2 at *
        generalize b[q].mails.map encMail = r3 at *
        generalize irow b[q].gone = r4 at *
        generalize j.mails.map encMail = r5 at *
        generalize irow j.gone = r6 at *
        simp (maxSteps := 1000000) [spec_JoinBoxes.l2, List.range_succ, bs_get, setAt, hi, p1, q1, h1, h2, h3, h4, e5, e6, eg, a0, a1, a2, eo, ea, eb, List.take_of_length_le]
      | none =>
        rw [hq] at h3
        have h4 := spec_l06Copy.says K.copy a[p] gp.inB
        have ej : joinB a b gs[i] = a[p] := by simp only [joinB, p2, boxO_none hq]
        rw [ej]
        simp only [ndS, List.map_append, List.map_cons, List.map_nil, List.length_append, List.length_singleton]
        simp only [encBox, encBoxO, boxes, mails, ints, intO] at h1 h2 h3 h4 a1 ⊢
        generalize irow gs = rg at *
        generalize irow G = rG at *
        generalize a.map encBox = ra at *
        generalize b.map encBox = rb at *
        generalize out.map encBox = ro at *
        generalize a[p].mails.map encMail = r1 at *
        generalize irow a[p].gone = r2 at *
        simp (maxSteps := 1000000) [spec_JoinBoxes.l2, List.range_succ, bs_get, setAt, hi, p1, h1, h2, h3, h4, e5, e6, eg, a0, a1, eo, ea, eb, List.take_of_length_le]
    | none =>
      rw [hp] at h2
      cases hq : boxO b gs[i] with
      | some q =>
        obtain ⟨q1, q2⟩ := boxO_some hq
        have gq := hb.good _ (List.getElem_mem q1)
        have a2 : ∀ hh, (b.map encBox)[q]'hh = encBox b[q] := by intro hh; simp
        rw [hq] at h3
        have h4 := spec_l06Copy.says K.copy b[q] gq.inB
        have ej : joinB a b gs[i] = b[q] := by simp only [joinB, q2, boxO_none hp]
        rw [ej]
        simp only [ndS, List.map_append, List.map_cons, List.map_nil, List.length_append, List.length_singleton]
        simp only [encBox, encBoxO, boxes, mails, ints, intO] at h1 h2 h3 h4 a2 ⊢
        generalize irow gs = rg at *
        generalize irow G = rG at *
        generalize a.map encBox = ra at *
        generalize b.map encBox = rb at *
        generalize out.map encBox = ro at *
        generalize b[q].mails.map encMail = r3 at *
        generalize irow b[q].gone = r4 at *
        simp (maxSteps := 1000000) [spec_JoinBoxes.l2, List.range_succ, bs_get, setAt, hi, q1, h1, h2, h3, h4, e5, e6, eg, a0, a2, eo, ea, eb, List.take_of_length_le]
      | none =>
        exfalso
        have n1 := boxO_none hp
        have n2 := boxO_none hq
        unfold boxIn at n1 n2
        rw [List.find?_eq_none] at n1 n2
        rcases hmem _ (List.getElem_mem hi) with z | z
        · obtain ⟨m, hm, e⟩ := List.mem_map.1 z; exact n1 m hm (by simp [e])
        · obtain ⟨m, hm, e⟩ := List.mem_map.1 z; exact n2 m hm (by simp [e])
end Mx

namespace Mx
open Go
variable {M : Nat → Option Body}
def neO (v : Nat) (L : List Box) (i : Nat) : List (Nat × Ob) := [(59, ⟨v, 7, true, false, (renTo L i).map encBox⟩)]
def neS (v : Nat) (L : List Box) (i k : Nat) (x : Nat) : St := { t := [(10, .c (.row 59 v 0 L.length)), (14, .c (I i)), (15, .c (I k))], o := neO v L i, n := x }
def neF (v : Nat) (L : List Box) (i : Nat) (x : Box) : Option Nat → Nat → Out × St
  | none, m => (.exit 9, { t := [(10, .c (.row 59 v 0 L.length)), (14, .c (I i)), (15, .c (I i)), (130, .c (.bool false))], o := neO v L i, n := m })
  | some _, m => (.exit 9, { t := [(10, .c (.row 59 v 0 L.length)), (14, .c (I i))], o := [(59, ⟨v, 7, true, false, ((renTo L i).map encBox).set i (encBox { x with name := otherName x.name x.gid })⟩)], n := m })
theorem ren_take_at (L : List Box) (i k : Nat) (hk : k < i) (hi : i < L.length) : (renTo L i)[k]'(by rw [renTo_len]; omega) = (ren (L.take i))[k]'(by rw [ren_len]; simp; omega) := by
  simp only [renTo]
  rw [List.getElem_append_left]
set_option maxHeartbeats 2000000 in
theorem ne_loop (kn : spec_OtherName.k M) (v : Nat) (L : List Box) (hL : L.length ≤ 1048576) (hb : ∀ b ∈ L, b.name.length ≤ 1048576 ∧ b.gid ≤ 9223372036854775807) (K i : Nat) (hi : i < L.length) (hK : i < K) :
    ∃ g : Nat → Nat, ∀ x, loopN (exC (run M) K spec_JoinBoxes.l4) K (neS v L i 0 x) = some (neF v L i L[i] (firstN (pAt (fun y : Box => decide (y.name = L[i].name)) (ren (L.take i))) i) (g x)) := by
  have hx := hb _ (List.getElem_mem hi)
  have hrl : (ren (L.take i)).length = i := by rw [ren_len]; simp; omega
  have h2 := spec_OtherName.says kn L[i].name L[i].gid hx.1 hx.2
  have el : ((renTo L i).map encBox).length = L.length := by simp [renTo_len]
  have a1 : ∀ hh, ((renTo L i).map encBox)[i]'hh = encBox L[i] := by
    intro hh; simp only [List.getElem_map, renTo_at L i hi]
  obtain ⟨g, hg⟩ := first_loop (f := exC (run M) K spec_JoinBoxes.l4) i (pAt (fun y : Box => decide (y.name = L[i].name)) (ren (L.take i))) (neS v L i) (neF v L i L[i]) (fun q m => by cases q <;> simp [neF])
    (fun k hk x c => by
      rw [pAt_at _ _ _ (by omega)] at c
      simp only [decide_eq_false_iff_not] at c
      have e5 : IntKind.i64.wrap ((k : Int) + 1) = (k : Int) + 1 := wrap_i64 (by omega) (by omega)
      have hk2 : k < L.length := by omega
      have a2 : ∀ hh, ((renTo L i).map encBox)[k]'hh = encBox ((ren (L.take i))[k]'(by omega)) := by
        intro hh; simp only [List.getElem_map, ren_take_at L i k hk hi]
      simp only [neS, neO]
      simp only [encBox, mails, ints] at a1 a2 ⊢
      generalize (ren (L.take i))[k]'(by omega) = y at *
      generalize (renTo L i).map encBox = rr at *
      generalize L[i] = z at *
      generalize z.mails.map encMail = r1 at *
      generalize irow z.gone = r2 at *
      generalize y.mails.map encMail = r3 at *
      generalize irow y.gone = r4 at *
      simp (maxSteps := 1000000) [spec_JoinBoxes.l4, List.range_succ, bs_get, setAt, hk, hi, hk2, c, e5, el, a1, a2])
    (fun k hk x c => by
      rw [pAt_at _ _ _ (by omega)] at c
      simp only [decide_eq_true_eq] at c
      have hk2 : k < L.length := by omega
      have a2 : ∀ hh, ((renTo L i).map encBox)[k]'hh = encBox ((ren (L.take i))[k]'(by omega)) := by
        intro hh; simp only [List.getElem_map, ren_take_at L i k hk hi]
      simp only [neS, neF, neO]
      simp only [encBox, mails, ints] at a1 a2 ⊢
      generalize (ren (L.take i))[k]'(by omega) = y at *
      generalize (renTo L i).map encBox = rr at *
      generalize L[i] = z at *
      generalize otherName z.name z.gid = nm at *
      generalize z.mails.map encMail = r1 at *
      generalize irow z.gone = r2 at *
      generalize y.mails.map encMail = r3 at *
      generalize irow y.gone = r4 at *
      simp (maxSteps := 1000000) [spec_JoinBoxes.l4, List.range_succ, bs_get, setAt, hk, hi, hk2, c, h2, el, a1, a2])
    (fun x => by
      simp only [neS, neF, neO]
      generalize (renTo L i).map encBox = rr at *
      simp (maxSteps := 1000000) [spec_JoinBoxes.l4, List.range_succ, bs_get, setAt])
  exact ⟨g, fun x => loopN_le (hg x) (by omega)⟩
theorem any_first (p : Box → Bool) (l : List Box) : l.any p = (firstN (pAt p l) l.length).isSome := by
  cases q : firstN (pAt p l) l.length with
  | none =>
    have hn := firstN_none q
    have : l.any p = false := by
      rw [List.any_eq_false]
      intro b hb
      obtain ⟨j, hj, rfl⟩ := List.getElem_of_mem hb
      have := hn j hj
      rw [pAt_at _ _ _ hj] at this
      simp [this]
    rw [this]; rfl
  | some k =>
    obtain ⟨h1, h2, _⟩ := firstN_some q
    rw [pAt_at _ _ _ h1] at h2
    have : l.any p = true := List.any_eq_true.2 ⟨_, List.getElem_mem h1, h2⟩
    rw [this]; rfl
def nfS (v : Nat) (L : List Box) (i : Nat) (x : Nat) : St := { t := [(10, .c (.row 59 v 0 L.length)), (14, .c (I i))], o := neO v L i, n := x }
def nfE (v : Nat) (L : List Box) (x : Nat) : St := { t := [(10, .c (.row 59 v 0 L.length)), (14, .c (I L.length)), (125, .c (.bool false))], o := neO v L L.length, n := x }
theorem nf_loop (kn : spec_OtherName.k M) (v : Nat) (L : List Box) (hL : L.length ≤ 1048576) (hb : ∀ b ∈ L, b.name.length ≤ 1048576 ∧ b.gid ≤ 9223372036854775807) (K : Nat) (hK : L.length < K) (x : Nat) :
    ∃ y, loopN (exC (run M) K spec_JoinBoxes.l3) K (nfS v L 0 x) = some (.exit 7, nfE v L y) := by
  obtain ⟨g, hr⟩ := count_loop (f := exC (run M) K spec_JoinBoxes.l3) L.length (nfS v L) 7 (nfE v L)
    (fun i hi x => by
      obtain ⟨g, hg⟩ := ne_loop kn v L hL hb K i hi (by omega)
      have e5 : IntKind.i64.wrap ((i : Int) + 1) = (i : Int) + 1 := wrap_i64 (by omega) (by omega)
      have hrl : (ren (L.take i)).length = i := by rw [ren_len]; simp; omega
      have hany := any_first (fun y : Box => decide (y.name = L[i].name)) (ren (L.take i))
      rw [hrl] at hany
      have hs := renTo_succ L i hi
      have ez : ((0 : Nat) : Int) = 0 := rfl
      have el : ((renTo L i).map encBox).length = L.length := by simp [renTo_len]
      have a1 : ((renTo L i).map encBox)[i]'(by omega) = encBox L[i] := by
        simp only [List.getElem_map, renTo_at L i hi]
      simp only [nfS, neO, hs, List.map_set]
      simp only [neS, neO, ez] at hg
      unfold renOne
      rw [hany]
      cases hq : firstN (pAt (fun y : Box => decide (y.name = L[i].name)) (ren (L.take i))) i with
      | none =>
        simp only [hq, neF, neO] at hg
        have e11 : ((renTo L i).map encBox).set i (encBox L[i]) = (renTo L i).map encBox := by
          rw [← a1, List.set_getElem_self]
        simp only [Option.isSome_none, Bool.false_eq_true, if_false]
        rw [e11]
        clear a1
        generalize (renTo L i).map encBox = rr at *
        simp (maxSteps := 1000000) [spec_JoinBoxes.l3, List.range_succ, bs_get, setAt, hi, hg, e5]
      | some q =>
        simp only [hq, neF] at hg
        simp only [Option.isSome_some, if_true]
        clear a1
        generalize ((renTo L i).map encBox).set i (encBox { L[i] with name := otherName L[i].name L[i].gid }) = r2 at *
        generalize (renTo L i).map encBox = rr at *
        simp (maxSteps := 1000000) [spec_JoinBoxes.l3, List.range_succ, bs_get, setAt, hi, hg, e5])
    (fun x => by
      simp only [nfS, nfE, neO]
      generalize (renTo L L.length).map encBox = rr at *
      simp (maxSteps := 1000000) [spec_JoinBoxes.l3, List.range_succ, bs_get, setAt])
  exact ⟨_, loopN_le (hr x) (by omega)⟩
theorem stepB_fold (a b : List Box) (G : List Int) : ∀ (gs : List Int) (out : List Box), gs.foldl (stepB a b G) out = out ++ (gs.filter fun g => !decide (g ∈ G)).map (joinB a b)
  | [], out => by simp
  | g :: gs, out => by
    rw [List.foldl_cons, stepB_fold a b G gs, List.filter_cons]
    unfold stepB
    by_cases c : g ∈ G
    · simp [c]
    · simp [c]
def joinBoxesS (a b : List Box) (G : List Int) : List Box := ren (((joinGone (gidsB a) (gidsB b)).filter fun g => !decide (g ∈ G)).map (joinB a b))
theorem joinB_names {a b : List Box} (ha : GoodL a) (hb : GoodL b) (g : Int) : (joinB a b g).name.length ≤ 12 ∧ (joinB a b g).gid ≤ 9999 := by
  have hg : ∀ {c : Box}, Good c → c.name.length ≤ 12 ∧ c.gid ≤ 9999 := fun {c} hc => ⟨(nameOk_len hc.name).2, hc.gid.2⟩
  unfold joinB
  cases hp : boxIn a g with
  | some x =>
    have h1 := hg (ha.good _ (boxIn_some hp).1)
    cases hq : boxIn b g with
    | some y =>
      have h2 := hg (hb.good _ (boxIn_some hq).1)
      simp only [joinBox_gid]
      rcases joinBox_name x y with q | q <;> rw [q]
      · exact h1
      · exact ⟨h2.1, h1.2⟩
    | none => exact h1
  | none =>
    cases hq : boxIn b g with
    | some y => exact hg (hb.good _ (boxIn_some hq).1)
    | none => simp
set_option maxHeartbeats 4000000 in
theorem spec_JoinBoxes.says (h : spec_JoinBoxes.k M) (a b : List Box) (G : List Int) (ha : GoodL a) (hb : GoodL b) (hG : G.length ≤ 4194304) :
    run M 466 [.c (boxes a), .c (boxes b), .c (ints G)] [] = some (.c (.sl true 7 ((joinBoxesS a b G).map encBox)), []) := by
  obtain ⟨h0, kin, kput, kcopy, kjoin, kat, kname⟩ := h
  have K : NdK M := ⟨kin, kcopy, kjoin, kat⟩
  have hla := ha.len
  have hlb := hb.len
  refine run_code (b := spec_JoinBoxes.m) h0 ⟨21, ?_⟩
  have hgl : (gidsB a).length = a.length := by simp [gidsB]
  have hgl2 : (gidsB b).length = b.length := by simp [gidsB]
  obtain ⟨⟨v1, n1⟩, r1⟩ := nb_loop kin kput 21 a b G hla (by omega) (2000016, 2000064)
  have hs1 : (a.foldl (fun s m => gadd s m.gid) []).length ≤ 5 := by
    have := foldl_inv a (fun s m => gadd s m.gid) (fun i s => s.length ≤ i) (fun i h s hs => by have := gadd_le s a[i].gid; omega) [] (by simp)
    omega
  obtain ⟨⟨v2, n2⟩, r2⟩ := nc_loop kin kput 21 a b G hlb (by omega) (a.foldl (fun s m => gadd s m.gid) []) hs1 (v1, n1 + 16)
  have hj : b.foldl (fun s m => gadd s m.gid) (a.foldl (fun s m => gadd s m.gid) []) = joinGone (gidsB a) (gidsB b) := by
    rw [gidsB_fold, gidsB_fold, joinGone, List.foldl_append]
  rw [hj] at r2
  have hgs : (joinGone (gidsB a) (gidsB b)).length ≤ 10 := by
    have := joinGone_le (gidsB a) (gidsB b)
    omega
  have hmem : ∀ g ∈ joinGone (gidsB a) (gidsB b), g ∈ gidsB a ∨ g ∈ gidsB b := fun g hg => (joinGone_mem _ _ _).1 hg
  unfold joinBoxesS
  have hnm : ∀ x ∈ ((joinGone (gidsB a) (gidsB b)).filter fun g => !decide (g ∈ G)).map (joinB a b), x.name.length ≤ 1048576 ∧ x.gid ≤ 9223372036854775807 := fun x hx => by
    obtain ⟨g, _, rfl⟩ := List.mem_map.1 hx
    have := joinB_names ha hb g
    omega
  have hfl := List.length_filter_le (fun g => !decide (g ∈ G)) (joinGone (gidsB a) (gidsB b))
  have eL := stepB_fold a b G (joinGone (gidsB a) (gidsB b)) []
  rw [List.nil_append] at eL
  have hLl : (((joinGone (gidsB a) (gidsB b)).filter fun g => !decide (g ∈ G)).map (joinB a b)).length ≤ 10 := by simp; omega
  obtain ⟨g3, hr3⟩ := fold_loop (f := exC (run M) 21 spec_JoinBoxes.l2) (joinGone (gidsB a) (gidsB b)) (stepB a b G) (fun i s => s.length ≤ i) (ndS a b G (joinGone (gidsB a) (gidsB b)) v2) 4 (ndE a b G (joinGone (gidsB a) (gidsB b)) v2)
    (fun i h s hs => by unfold stepB; split <;> (try simp) <;> omega)
    (fun i hi s x hs => nd_turn K 21 a b ha hb G (joinGone (gidsB a) (gidsB b)) hG (by omega) hmem v2 i hi s hs x)
    (fun s x hs => nd_end 21 a b G (joinGone (gidsB a) (gidsB b)) v2 s x) [] (by simp)
  have r3 := loopN_le (hr3 (n2 + 0, n2 + 48)) (show (joinGone (gidsB a) (gidsB b)).length + 1 ≤ 21 by omega)
  rw [eL] at r3
  generalize g3 (n2 + 0, n2 + 48) = y at *
  obtain ⟨v3, n3⟩ := y
  generalize ((joinGone (gidsB a) (gidsB b)).filter fun g => !decide (g ∈ G)).map (joinB a b) = L at *
  obtain ⟨n4, r4⟩ := nf_loop kname v3 L (by omega) hnm 21 (by omega) (n3 + 16)
  have el : ((ren L).map encBox).length = L.length := by simp [ren_len]
  have eg := irow_length (joinGone (gidsB a) (gidsB b))
  have eg1 := irow_length (a.foldl (fun s m => gadd s m.gid) [])
  have ez : ((0 : Nat) : Int) = 0 := rfl
  simp only [nbS, nbE, ez, irow_nil, List.length_nil] at r1
  simp only [ncS, ncE, ez] at r2
  simp only [ndS, ndE, ez, List.map_nil, List.length_nil, Nat.add_zero] at r3
  simp only [nfS, nfE, neO, renTo_zero, renTo_all, ez] at r4
  clear hnm eL hj hmem hr3
  generalize (ren L).map encBox = R4 at *
  generalize L.map encBox = R3 at *
  generalize L.length = N at *
  generalize (joinGone (gidsB a) (gidsB b)) = gj at *
  generalize (a.foldl (fun s m => gadd s m.gid) []) = ga at *
  simp only [boxes, ints] at *
  generalize irow gj = rgj at *
  generalize irow ga = rga at *
  generalize a.map encBox = ra at *
  generalize b.map encBox = rb at *
  generalize irow G = rg at *
  simp (maxSteps := 1000000) [exB, spec_JoinBoxes.m, spec_JoinBoxes.b, List.range_succ, bs_get, setAt, r1, r2, r3, r4, eg, eg1, el, List.take_of_length_le]
end Mx

namespace Mx
open Go
variable {M : Nat → Option Body}
/-- the Gids of the mails of the first i boxes -/
def seenI (L : List Box) (i : Nat) : List Int := (L.take i).flatMap fun b => gids b.mails
def dedOne (L : List Box) (i : Nat) (x : Box) : Box := { x with mails := x.mails.filter fun m => !decide (m.gid ∈ seenI L i) }
def dedTo (L : List Box) (k : Nat) : List Box := L.mapIdx fun i x => if i < k then dedOne L i x else x
def ded (L : List Box) : List Box := L.mapIdx fun i x => dedOne L i x
theorem dedTo_zero (L : List Box) : dedTo L 0 = L := by unfold dedTo; simp [List.mapIdx_eq_iff]
theorem dedTo_all (L : List Box) : dedTo L L.length = ded L := by
  unfold dedTo ded
  apply List.ext_getElem
  · simp
  · intro i h1 h2; simp at h1 ⊢; intro h; omega
theorem dedTo_len (L : List Box) (k : Nat) : (dedTo L k).length = L.length := by simp [dedTo]
theorem dedTo_at (L : List Box) (k : Nat) (h : k < L.length) : (dedTo L k)[k]'(by rw [dedTo_len]; exact h) = L[k] := by simp [dedTo]
theorem dedTo_succ (L : List Box) (k : Nat) (h : k < L.length) : dedTo L (k + 1) = (dedTo L k).set k (dedOne L k L[k]) := by
  unfold dedTo
  apply List.ext_getElem
  · simp
  · intro i h1 h2
    simp only [List.getElem_mapIdx, List.getElem_set]
    by_cases c : k = i
    · subst c; simp
    · rw [if_neg c]
      by_cases c2 : i < k
      · rw [if_pos c2, if_pos (by omega)]
      · rw [if_neg c2, if_neg (by omega)]
theorem seenI_succ (L : List Box) (i : Nat) (h : i < L.length) : seenI L (i + 1) = seenI L i ++ gids L[i].mails := by
  simp only [seenI, take_snoc L i h, List.flatMap_append, List.flatMap_cons, List.flatMap_nil, List.append_nil]
structure JzC where
  u4 : Nat
  u6 : Nat
  w : Nat
  z : Nat
  who : Int
  time : Int
  gone : List Int
  L : List Box
def jz6 (c : JzC) : List T := [I c.who, I c.time, .row 13300 c.w 0 c.L.length, .row 11900 c.z 0 c.gone.length]
abbrev szero : List T := [I 0, I 0, .nils 7, .nils 1]
structure JzS where
  i : Nat
  v : Nat
  n : Nat
def jz1S (c : JzC) (i : Nat) (x : Box) (seen : List Int) (u9 v : Nat) (j : Nat) (left : List Mail) (y : Nat × Nat) : St := { t := [(4, .c (.ptr 4 c.u4 0 0)), (6, .c (.ptr 6 c.u6 0 0)), (7, .c (.row 35 v 0 seen.length)), (8, .c (I i)), (9, .c (.ptr 9 u9 0 0)), (10, .c (.row 44 y.1 0 left.length)), (37, .c (.row 13300 c.w 0 c.L.length)), (38, .c (I c.L.length)), (39, .c (I i)), (46, .c (mails x.mails)), (47, .c (I x.mails.length)), (48, .c (I j))], o := [(4, ⟨c.u4, 4, true, true, [szero]⟩), (6, ⟨c.u6, 4, true, true, [jz6 c]⟩), (9, ⟨u9, 7, true, true, [encBox x]⟩), (35, ⟨v, 1, true, false, irow seen⟩), (44, ⟨y.1, 4, true, false, left.map encMail⟩), (11900, ⟨c.z, 1, false, false, irow c.gone⟩), (13300, ⟨c.w, 7, true, false, (dedTo c.L i).map encBox⟩)], n := y.2 }
def jz1E (c : JzC) (i : Nat) (x : Box) (seen : List Int) (u9 v : Nat) (left : List Mail) (y : Nat × Nat) : St := { t := [(4, .c (.ptr 4 c.u4 0 0)), (6, .c (.ptr 6 c.u6 0 0)), (7, .c (.row 35 v 0 seen.length)), (8, .c (I i)), (9, .c (.ptr 9 u9 0 0)), (10, .c (.row 44 y.1 0 left.length)), (37, .c (.row 13300 c.w 0 c.L.length)), (38, .c (I c.L.length)), (39, .c (I i)), (46, .c (mails x.mails)), (47, .c (I x.mails.length)), (48, .c (I x.mails.length)), (49, .c (.bool false))], o := [(4, ⟨c.u4, 4, true, true, [szero]⟩), (6, ⟨c.u6, 4, true, true, [jz6 c]⟩), (9, ⟨u9, 7, true, true, [encBox x]⟩), (35, ⟨v, 1, true, false, irow seen⟩), (44, ⟨y.1, 4, true, false, left.map encMail⟩), (11900, ⟨c.z, 1, false, false, irow c.gone⟩), (13300, ⟨c.w, 7, true, false, (dedTo c.L i).map encBox⟩)], n := y.2 }
set_option maxHeartbeats 1000000 in
theorem jz1_loop (kc : slices_Contains_int_int.k M) (k : Nat) (c : JzC) (i : Nat) (x : Box) (seen : List Int) (hseen : seen.length ≤ 4194304) (u9 v : Nat) (hx : x.mails.length ≤ 1048576) (hk : x.mails.length < k) (y : Nat × Nat) :
    ∃ z, loopN (exC (run M) k impl_JoinStore.l1) k (jz1S c i x seen u9 v 0 [] y) = some (.exit 2, jz1E c i x seen u9 v (x.mails.filter fun m => !decide (m.gid ∈ seen)) z) := by
  obtain ⟨g, hr⟩ := fold_loop (f := exC (run M) k impl_JoinStore.l1) x.mails (fun s m => if (!decide (m.gid ∈ seen)) = true then s ++ [m] else s) (fun i s => s.length ≤ i) (jz1S c i x seen u9 v) 2 (jz1E c i x seen u9 v)
    (fun i h s hs => by split <;> (try simp) <;> omega)
    (fun j hj s y hs => by
      obtain ⟨v4, n⟩ := y
      have e5 : IntKind.i64.wrap ((j : Int) + 1) = (j : Int) + 1 := wrap_i64 (by omega) (by omega)
      have e6 : s.length + 1 ≤ 4294967296 := by omega
      have e9 : (s.map encMail).length = s.length := by simp
      have er : (x.mails.map encMail).length = x.mails.length := by simp
      have h1 := slices_Contains_int_int.says kc seen x.mails[j].gid (by omega)
      have eg := irow_length seen
      have a1 : ∀ hh, (x.mails.map encMail)[j]'hh = encMail x.mails[j] := by intro hh; simp
      simp only [Prod.exists]
      by_cases q : x.mails[j].gid ∈ seen
      · rw [decide_eq_true q] at h1
        simp only [q, decide_true, Bool.not_true, Bool.false_eq_true, if_false, jz1S, jz6]
        simp only [encBox, mails, ints, encMail, regs] at a1 h1 ⊢
        generalize x.mails.map encMail = rx at *
        generalize irow seen = rs at *
        generalize (dedTo c.L i).map encBox = rd at *
        generalize s.map encMail = rl at *
        generalize x.mails[j].flags.map encReg = rf at *
        simp (maxSteps := 1000000) [impl_JoinStore.l1, List.range_succ, bs_get, setAt, hj, h1, e5, er, eg, a1, List.take_of_length_le]
      · rw [decide_eq_false q] at h1
        simp only [q, decide_false, Bool.not_false, if_true, jz1S, jz6, List.map_append, List.map_cons, List.map_nil, List.length_append, List.length_singleton]
        simp only [encBox, mails, ints, encMail, regs] at a1 h1 ⊢
        generalize x.mails.map encMail = rx at *
        generalize irow seen = rs at *
        generalize (dedTo c.L i).map encBox = rd at *
        generalize s.map encMail = rl at *
        generalize x.mails[j].flags.map encReg = rf at *
        simp (maxSteps := 1000000) [impl_JoinStore.l1, List.range_succ, bs_get, setAt, hj, h1, e5, e6, e9, er, eg, a1, List.take_of_length_le])
    (fun s y hs => by
      obtain ⟨v4, n⟩ := y
      have er : (x.mails.map encMail).length = x.mails.length := by simp
      simp only [Prod.exists, jz1S, jz1E, jz6, mails]
      generalize x.mails.map encMail = rx at *
      generalize irow seen = rs at *
      generalize (dedTo c.L i).map encBox = rd at *
      generalize s.map encMail = rl at *
      simp (maxSteps := 1000000) [impl_JoinStore.l1, List.range_succ, bs_get, setAt, er]) [] (by simp)
  rw [mfilter_fold] at hr
  exact ⟨_, loopN_le (hr y) (by omega)⟩
def jz2S (c : JzC) (i : Nat) (xm : List Mail) (left : List Mail) (v4 : Nat) (j : Nat) (seen : List Int) (y : Nat × Nat) : St := { t := [(4, .c (.ptr 4 c.u4 0 0)), (6, .c (.ptr 6 c.u6 0 0)), (7, .c (.row 35 y.1 0 seen.length)), (8, .c (I i)), (10, .c (.row 44 v4 0 left.length)), (37, .c (.row 13300 c.w 0 c.L.length)), (38, .c (I c.L.length)), (39, .c (I i)), (63, .c (mails xm)), (64, .c (I xm.length)), (65, .c (I j))], o := [(4, ⟨c.u4, 4, true, true, [szero]⟩), (6, ⟨c.u6, 4, true, true, [jz6 c]⟩), (35, ⟨y.1, 1, true, false, irow seen⟩), (44, ⟨v4, 4, true, false, left.map encMail⟩), (11900, ⟨c.z, 1, false, false, irow c.gone⟩), (13300, ⟨c.w, 7, true, false, (dedTo c.L i).map encBox⟩)], n := y.2 }
def jz2E (c : JzC) (i : Nat) (xm : List Mail) (left : List Mail) (v4 : Nat) (seen : List Int) (y : Nat × Nat) : St := { t := [(4, .c (.ptr 4 c.u4 0 0)), (6, .c (.ptr 6 c.u6 0 0)), (7, .c (.row 35 y.1 0 seen.length)), (8, .c (I i)), (10, .c (.row 44 v4 0 left.length)), (37, .c (.row 13300 c.w 0 c.L.length)), (38, .c (I c.L.length)), (39, .c (I i)), (63, .c (mails xm)), (64, .c (I xm.length)), (65, .c (I xm.length)), (66, .c (.bool false))], o := [(4, ⟨c.u4, 4, true, true, [szero]⟩), (6, ⟨c.u6, 4, true, true, [jz6 c]⟩), (35, ⟨y.1, 1, true, false, irow seen⟩), (44, ⟨v4, 4, true, false, left.map encMail⟩), (11900, ⟨c.z, 1, false, false, irow c.gone⟩), (13300, ⟨c.w, 7, true, false, (dedTo c.L i).map encBox⟩)], n := y.2 }
theorem snoc_fold (l : List Mail) (s : List Int) : l.foldl (fun s m => s ++ [m.gid]) s = s ++ gids l := by
  induction l generalizing s with
  | nil => simp [gids]
  | cons a l ih => rw [List.foldl_cons, ih]; simp [gids]
set_option maxHeartbeats 1000000 in
theorem jz2_loop (k : Nat) (c : JzC) (i : Nat) (xm left : List Mail) (v4 : Nat) (seen : List Int) (hseen : seen.length ≤ 4194304) (hx : xm.length ≤ 1048576) (hk : xm.length < k) (y : Nat × Nat) :
    ∃ z, loopN (exC (run M) k impl_JoinStore.l2) k (jz2S c i xm left v4 0 seen y) = some (.exit 4, jz2E c i xm left v4 (seen ++ gids xm) z) := by
  obtain ⟨g, hr⟩ := fold_loop (f := exC (run M) k impl_JoinStore.l2) xm (fun s m => s ++ [m.gid]) (fun i s => s.length ≤ 4194304 + i) (jz2S c i xm left v4) 4 (jz2E c i xm left v4)
    (fun i h s hs => by simp; omega)
    (fun j hj s y hs => by
      obtain ⟨v, n⟩ := y
      have e5 : IntKind.i64.wrap ((j : Int) + 1) = (j : Int) + 1 := wrap_i64 (by omega) (by omega)
      have e6 : s.length + 1 ≤ 4294967296 := by omega
      have e9 := irow_length s
      have er : (xm.map encMail).length = xm.length := by simp
      have a1 : ∀ hh, (xm.map encMail)[j]'hh = encMail xm[j] := by intro hh; simp
      simp only [Prod.exists, jz2S, jz6, irow_snoc, List.length_append, List.length_singleton]
      simp only [mails, encMail, regs] at a1 ⊢
      generalize xm.map encMail = rx at *
      generalize irow s = rs at *
      generalize (dedTo c.L i).map encBox = rd at *
      generalize left.map encMail = rl at *
      generalize xm[j].flags.map encReg = rf at *
      simp (maxSteps := 1000000) [impl_JoinStore.l2, List.range_succ, bs_get, setAt, hj, e5, e6, e9, er, a1, List.take_of_length_le])
    (fun s y hs => by
      obtain ⟨v, n⟩ := y
      have er : (xm.map encMail).length = xm.length := by simp
      simp only [Prod.exists, jz2S, jz2E, jz6, mails]
      generalize xm.map encMail = rx at *
      generalize irow s = rs at *
      generalize (dedTo c.L i).map encBox = rd at *
      generalize left.map encMail = rl at *
      simp (maxSteps := 1000000) [impl_JoinStore.l2, List.range_succ, bs_get, setAt, er]) seen (by omega)
  rw [snoc_fold] at hr
  exact ⟨_, loopN_le (hr y) (by omega)⟩
end Mx

namespace Mx
open Go
variable {M : Nat → Option Body}
def jz0S (c : JzC) (s : JzS) : St := { t := [(4, .c (.ptr 4 c.u4 0 0)), (6, .c (.ptr 6 c.u6 0 0)), (7, .c (.row 35 s.v 0 (seenI c.L s.i).length)), (37, .c (.row 13300 c.w 0 c.L.length)), (38, .c (I c.L.length)), (39, .c (I s.i))], o := [(4, ⟨c.u4, 4, true, true, [szero]⟩), (6, ⟨c.u6, 4, true, true, [jz6 c]⟩), (35, ⟨s.v, 1, true, false, irow (seenI c.L s.i)⟩), (11900, ⟨c.z, 1, false, false, irow c.gone⟩), (13300, ⟨c.w, 7, true, false, (dedTo c.L s.i).map encBox⟩)], n := s.n }
def jz0E (c : JzC) (s : JzS) : St := { t := [(4, .c (.ptr 4 c.u4 0 0)), (6, .c (.ptr 6 c.u6 0 0)), (7, .c (.row 35 s.v 0 (seenI c.L s.i).length)), (37, .c (.row 13300 c.w 0 c.L.length)), (38, .c (I c.L.length)), (39, .c (I s.i)), (40, .c (.bool false))], o := [(4, ⟨c.u4, 4, true, true, [szero]⟩), (6, ⟨c.u6, 4, true, true, [jz6 c]⟩), (35, ⟨s.v, 1, true, false, irow (seenI c.L s.i)⟩), (11900, ⟨c.z, 1, false, false, irow c.gone⟩), (13300, ⟨c.w, 7, true, false, (dedTo c.L s.i).map encBox⟩)], n := s.n }
theorem seenI_len (L : List Box) (h : ∀ b ∈ L, b.mails.length ≤ 100) : ∀ i, (seenI L i).length ≤ 100 * i
  | 0 => by simp [seenI]
  | i + 1 => by
    have ih := seenI_len L h i
    by_cases c : i < L.length
    · rw [seenI_succ L i c]
      have := h _ (List.getElem_mem c)
      simp only [List.length_append, gids, List.length_map]; omega
    · have : seenI L (i + 1) = seenI L i := by
        simp only [seenI]
        rw [List.take_of_length_le (by omega), List.take_of_length_le (by omega)]
      rw [this]; omega
set_option maxHeartbeats 2000000 in
theorem jz0_turn (kc : slices_Contains_int_int.k M) (k : Nat) (hk : 200 ≤ k) (c : JzC) (hL : c.L.length ≤ 1000) (hb : ∀ b ∈ c.L, b.mails.length ≤ 100) (s : JzS) (hs : s.i < c.L.length) :
    ∃ v' n', exC (run M) k impl_JoinStore.l0 (jz0S c s) = some (.normal, jz0S c ⟨s.i + 1, v', n'⟩) := by
  obtain ⟨i, v, n⟩ := s
  simp only at hs
  have hx := hb _ (List.getElem_mem hs)
  have hsl := seenI_len c.L hb i
  obtain ⟨⟨v4, n4⟩, r1⟩ := jz1_loop kc k c i c.L[i] (seenI c.L i) (by omega) (n + 64) v (by omega) (by omega) (n + 112, n + 208)
  obtain ⟨⟨v5, n5⟩, r2⟩ := jz2_loop (M := M) k c i c.L[i].mails (c.L[i].mails.filter fun m => !decide (m.gid ∈ seenI c.L i)) v4 (seenI c.L i) (by omega) (by omega) (by omega) (v, n4 + 64)
  rw [← seenI_succ c.L i hs] at r2
  have e5 : IntKind.i64.wrap ((i : Int) + 1) = (i : Int) + 1 := wrap_i64 (by omega) (by omega)
  have ez : ((0 : Nat) : Int) = 0 := rfl
  have el : ((dedTo c.L i).map encBox).length = c.L.length := by simp [dedTo_len]
  have a1 : ∀ hh, ((dedTo c.L i).map encBox)[i]'hh = encBox c.L[i] := by
    intro hh; simp only [List.getElem_map, dedTo_at c.L i hs]
  have t3 : (dedTo c.L (i + 1)).map encBox = ((dedTo c.L i).map encBox).set i (encBox (dedOne c.L i c.L[i])) := by rw [dedTo_succ c.L i hs, List.map_set]
  have efl : ((c.L[i].mails.filter fun m => !decide (m.gid ∈ seenI c.L i)).map encMail).length = (c.L[i].mails.filter fun m => !decide (m.gid ∈ seenI c.L i)).length := by simp
  have er : (c.L[i].mails.map encMail).length = c.L[i].mails.length := by simp
  simp only [jz1S, jz1E, ez, List.map_nil, List.length_nil] at r1
  simp only [jz2S, jz2E, ez] at r2
  simp only [jz0S, t3]
  clear t3
  simp only [dedOne, encBox, mails, ints, jz6] at r1 r2 a1 ⊢
  generalize (c.L[i].mails.filter fun m => !decide (m.gid ∈ seenI c.L i)).map encMail = rl at *
  generalize (c.L[i].mails.filter fun m => !decide (m.gid ∈ seenI c.L i)).length = nl at *
  generalize irow (seenI c.L (i + 1)) = rs1 at *
  generalize (seenI c.L (i + 1)).length = ns1 at *
  generalize irow (seenI c.L i) = rs at *
  generalize (seenI c.L i).length = ns at *
  generalize (dedTo c.L i).map encBox = rd at *
  generalize c.L[i] = x at *
  generalize c.L.length = N at *
  generalize x.mails.map encMail = rx at *
  generalize irow x.gone = rg at *
  generalize irow c.gone = rcg at *
  simp (maxSteps := 1000000) [impl_JoinStore.l0, List.range_succ, bs_get, setAt, hs, r1, r2, e5, el, a1, efl, er, List.take_of_length_le]
theorem jz0_end (k : Nat) (c : JzC) (s : JzS) (hs : ¬ s.i < c.L.length) :
    ∃ n', exC (run M) k impl_JoinStore.l0 (jz0S c s) = some (.exit 0, jz0E c ⟨s.i, s.v, n'⟩) := by
  obtain ⟨i, v, n⟩ := s
  simp only at hs
  simp only [jz0S, jz0E, jz6]
  generalize (dedTo c.L i).map encBox = rd at *
  simp (maxSteps := 1000000) [impl_JoinStore.l0, List.range_succ, bs_get, setAt, hs]
end Mx

namespace Mx
open Go
variable {M : Nat → Option Body}
def joinStoreI (a b : Store) : Store := { who := a.who, time := Max.max a.time b.time, boxes := ded (joinBoxesI a.boxes b.boxes (joinGone a.gone b.gone)), gone := joinGone a.gone b.gone }
theorem jz0_loop (kc : slices_Contains_int_int.k M) (k : Nat) (hk : 1200 ≤ k) (c : JzC) (hL : c.L.length ≤ 1000) (hb : ∀ b ∈ c.L, b.mails.length ≤ 100) (v n : Nat) :
    ∃ v' n', loopN (exC (run M) k impl_JoinStore.l0) k (jz0S c ⟨0, v, n⟩) = some (.exit 0, jz0E c ⟨c.L.length, v', n'⟩) := by
  obtain ⟨r, hr, ⟨⟨i, v', n'⟩, rfl, hi⟩⟩ := loop_ex (f := exC (run M) k impl_JoinStore.l0) (jz0S c) (fun s => s.i ≤ c.L.length) (fun s => c.L.length - s.i) (fun r => ∃ s', r = (.exit 0, jz0E c s') ∧ s'.i = c.L.length)
    (fun s hs => by
      by_cases q : s.i < c.L.length
      · left
        obtain ⟨v', n', hh⟩ := jz0_turn kc k (by omega) c hL hb s q
        exact ⟨_, hh, by simp only; omega, by simp only; omega⟩
      · right
        obtain ⟨n', hh⟩ := jz0_end (M := M) k c s q
        exact ⟨_, hh, by simp, _, rfl, by simp only; omega⟩) k ⟨0, v, n⟩ (by simp) (by simp only; omega)
  simp only at hi
  subst hi
  exact ⟨v', n', hr⟩
/-- what a rename leaves -/
theorem ren_mem : ∀ (l acc : List Box) (x : Box), x ∈ l.foldl renStep acc → x ∈ acc ∨ ∃ y ∈ l, x.gid = y.gid ∧ x.mails = y.mails ∧ x.gone = y.gone ∧ (x.name = y.name ∨ x.name = otherName y.name y.gid)
  | [], acc, x, h => .inl h
  | y :: l, acc, x, h => by
    rw [List.foldl_cons] at h
    rcases ren_mem l _ x h with q | ⟨z, hz, q⟩
    · rw [renStep_eq] at q
      rcases List.mem_append.1 q with q | q
      · exact .inl q
      · simp only [List.mem_singleton] at q
        subst q
        right
        refine ⟨y, List.mem_cons_self .., ?_⟩
        unfold renOne
        split
        · exact ⟨rfl, rfl, rfl, .inr rfl⟩
        · exact ⟨rfl, rfl, rfl, .inl rfl⟩
    · exact .inr ⟨z, List.mem_cons_of_mem _ hz, q⟩
theorem otherName_len (s : List UInt8) (g : Int) : (otherName s g).length ≤ 12 := by
  unfold otherName
  split
  · simp; omega
  · simp; omega
structure Small (x : Box) : Prop where
  m : x.mails.length ≤ 20
  g : x.gone.length ≤ 80
  n : x.name.length ≤ 12
  f : ∀ m ∈ x.mails, m.flags.length ≤ 1048576
  d : (gids x.mails).Nodup
theorem Good.small {b : Box} (h : Good b) : Small b := ⟨by have := h.len; omega, by have := h.goneL; omega, (nameOk_len h.name).2, h.inB.f, h.nd⟩
theorem joinBox_small {a b : Box} (ha : Good a) (hb : Good b) : Small (joinBox a b) := by
  have H := ha.joins hb
  have J := again_joins ha hb
  refine ⟨?_, ?_, ?_, (joinBox_in H).f, J.na⟩
  · have := J.all; rw [allM_self] at this; exact this
  · unfold joinBox; split
    · have := joinGone_le a.gone b.gone; have := ha.goneL; have := hb.goneL; simp only; omega
    · have := ha.goneL; omega
  · rcases joinBox_name a b with q | q <;> rw [q]
    · exact (nameOk_len ha.name).2
    · exact (nameOk_len hb.name).2
theorem allB_small {a b : List Box} (ha : GoodL a) (hb : GoodL b) (x : Box) (h : x ∈ allB a b) : Small x := by
  rcases allB_mem x h with q | q | ⟨y, hy, z, hz, _, rfl⟩
  · exact (ha.good x q).small
  · exact (hb.good x q).small
  · exact joinBox_small (ha.good y hy) (hb.good z hz)
theorem joinBoxesI_small {a b : List Box} (ha : GoodL a) (hb : GoodL b) (G : List Int) (x : Box) (h : x ∈ joinBoxesI a b G) : Small x := by
  rcases ren_mem _ _ x h with q | ⟨y, hy, q1, q2, q3, q4⟩
  · simp at q
  · have S := allB_small ha hb y (List.mem_filter.1 (sortBy_mem.1 hy)).1
    refine ⟨by rw [q2]; exact S.m, by rw [q3]; exact S.g, ?_, by rw [q2]; exact S.f, by rw [q2]; exact S.d⟩
    rcases q4 with q | q <;> rw [q]
    · exact S.n
    · exact otherName_len _ _
theorem joinBoxesI_len {a b : List Box} (ha : GoodL a) (hb : GoodL b) (G : List Int) : (joinBoxesI a b G).length ≤ 10 := by
  unfold joinBoxesI
  rw [ren_len, sortBy_len]
  have h1 := List.length_filter_le (fun x : Box => !decide (x.gid ∈ G)) (allB a b)
  have h2 := allB_len a b
  have := ha.len
  have := hb.len
  omega
theorem ded_in (L : List Box) (h : ∀ x ∈ L, Small x) : ∀ x ∈ ded L, BoxIn x := by
  intro x hx
  obtain ⟨i, hi, rfl⟩ := List.getElem_of_mem hx
  simp only [ded, List.length_mapIdx] at hi
  simp only [ded, List.getElem_mapIdx, dedOne]
  have S := h _ (List.getElem_mem hi)
  have hl := List.length_filter_le (fun m : Mail => !decide (m.gid ∈ seenI L i)) L[i].mails
  refine ⟨by have := S.m; simp only; omega, by have := S.g; simp only; omega, by have := S.n; simp only; omega, fun m hm => S.f m (List.mem_filter.1 hm).1⟩
structure StoreGood (s : Store) : Prop where
  boxes : GoodL s.boxes
  gone : s.gone.length ≤ 20
  asc : s.boxes.Pairwise fun x y => x.gid < y.gid
theorem storeOk_good {s : Store} (h : storeOk s = true) : StoreGood s := by
  simp only [storeOk, Bool.and_eq_true, decide_eq_true_eq, Option.isNone_iff_eq_none, firstN_isNone] at h
  obtain ⟨⟨⟨⟨_, _⟩, h3⟩, h4⟩, h5⟩ := h
  have hg := (gidsOk_iff.1 h4).2.2
  have hbad : ∀ i (hi : i < s.boxes.length), boxOk s.boxes[i] = true ∧ ∀ (q : 0 < i), (s.boxes[i - 1]'(by omega)).gid < s.boxes[i].gid := fun i hi => by
    have := h5 i hi
    rw [badAt_at hi, badBox_at hi] at this
    simp at this
    exact ⟨this.1.1.1.1.1, this.1.1.1.1.2⟩
  refine ⟨⟨h3, fun b hb => ?_⟩, by omega, ?_⟩
  · obtain ⟨i, hi, rfl⟩ := List.getElem_of_mem hb
    exact boxOk_iff.1 (hbad i hi).1
  · have hA : Asc (s.boxes.map (·.gid)) := step_asc fun j hj => by
      simp only [List.length_map] at hj
      have := (hbad (j + 1) hj).2 (by omega)
      simpa using this
    exact List.pairwise_map.1 hA
set_option maxHeartbeats 4000000 in
theorem impl_JoinStore.says (h : impl_JoinStore.k M) (a b : Store) (ha : StoreGood a) (hb : StoreGood b) :
    run M 447 [.a (encStore a), .a (encStore b)] [] = some (.a [I a.who, I (Max.max a.time b.time), .sl true 7 ((joinStoreI a b).boxes.map encBox), .sl false 1 (irow (joinStoreI a b).gone)], []) := by
  obtain ⟨h0, kg, kc, kb⟩ := h
  have hga := ha.gone
  have hgb := hb.gone
  have hgj := joinGone_le a.gone b.gone
  have h1 := impl_JoinGone.says kg a.gone b.gone (by omega) (by omega)
  have h2 := impl_JoinBoxes.says kb a.boxes b.boxes (joinGone a.gone b.gone) ha.boxes hb.boxes (by omega)
  have hLl := joinBoxesI_len ha.boxes hb.boxes (joinGone a.gone b.gone)
  have hLs := joinBoxesI_small ha.boxes hb.boxes (joinGone a.gone b.gone)
  simp only [joinStoreI]
  have eg := irow_length (joinGone a.gone b.gone)
  generalize joinGone a.gone b.gone = G at *
  generalize joinBoxesI a.boxes b.boxes G = L at *
  obtain ⟨v1, n1, r1⟩ := jz0_loop kc 1200 (by omega) ⟨2000032, 2000384, 2000352, 2000112, a.who, Max.max a.time b.time, G, L⟩ (by simp only; omega) (fun x hx => by have := (hLs x hx).m; omega) 2000416 2000512
  refine run_code (b := impl_JoinStore.m) h0 ⟨1200, ?_⟩
  have el : (L.map encBox).length = L.length := by simp
  have el2 : ((ded L).map encBox).length = L.length := by simp [ded]
  have ez : ((0 : Nat) : Int) = 0 := rfl
  have es : seenI L 0 = [] := by simp [seenI]
  have em := max_int a.time b.time
  simp only [jz0S, jz0E, jz6, dedTo_zero, dedTo_all, ez, es, irow_nil, List.length_nil] at r1
  generalize hmx : Max.max a.time b.time = mx at *
  clear hmx hLs
  generalize (ded L).map encBox = RD at *
  generalize L.map encBox = RL at *
  generalize L.length = N at *
  generalize irow (seenI L N) = rs at *
  simp only [encStore, boxes, ints] at *
  generalize irow G = rg at *
  generalize G.length = ng at *
  generalize a.boxes.map encBox = ra at *
  generalize b.boxes.map encBox = rb at *
  generalize irow a.gone = ga at *
  generalize irow b.gone = gb at *
  by_cases c : a.time < b.time
  · rw [if_pos c] at em
    subst em
    simp (maxSteps := 1000000) [exB, impl_JoinStore.m, impl_JoinStore.b, List.range_succ, bs_get, setAt, h1, h2, r1, c, el, el2, eg, List.take_of_length_le]
  · rw [if_neg c] at em
    subst em
    simp (maxSteps := 1000000) [exB, impl_JoinStore.m, impl_JoinStore.b, List.range_succ, bs_get, setAt, h1, h2, r1, c, el, el2, eg, List.take_of_length_le]
end Mx

namespace Mx
open Go
variable {M : Nat → Option Body}
def stepD (s : List Mail × List Int) (m : Mail) : List Mail × List Int := if m.gid ∈ s.2 then s else (s.1 ++ [m], s.2 ++ [m.gid])
theorem stepD_fold (s0 : List Int) : ∀ (ms : List Mail) (l : List Mail) (s : List Int), (gids ms).Nodup → (∀ m ∈ ms, m.gid ∈ s ↔ m.gid ∈ s0) → (∀ g, g ∈ s0 → g ∈ s) →
    (ms.foldl stepD (l, s)).1 = l ++ ms.filter (fun m => !decide (m.gid ∈ s0)) ∧ ∀ g, g ∈ (ms.foldl stepD (l, s)).2 ↔ g ∈ s ∨ g ∈ gids ms
  | [], l, s, _, _, _ => by simp [gids]
  | m :: ms, l, s, hn, h1, h2 => by
    have hn' : m.gid ∉ gids ms ∧ (gids ms).Nodup := by
      have := List.nodup_cons.1 (show (m.gid :: gids ms).Nodup from hn)
      exact this
    rw [List.foldl_cons, List.filter_cons]
    have hm := h1 m (List.mem_cons_self ..)
    by_cases c : m.gid ∈ s
    · have c0 := hm.1 c
      have e : stepD (l, s) m = (l, s) := by unfold stepD; rw [if_pos c]
      rw [e]
      obtain ⟨q1, q2⟩ := stepD_fold s0 ms l s hn'.2 (fun x hx => h1 x (List.mem_cons_of_mem _ hx)) h2
      refine ⟨by rw [q1]; simp [c0], fun g => ?_⟩
      rw [q2]
      simp only [gids, List.map_cons, List.mem_cons]
      constructor
      · rintro (q | q)
        · exact .inl q
        · exact .inr (.inr q)
      · rintro (q | q | q)
        · exact .inl q
        · rw [q]; exact .inl c
        · exact .inr q
    · have c0 : ¬ m.gid ∈ s0 := fun q => c (hm.2 q)
      have e : stepD (l, s) m = (l ++ [m], s ++ [m.gid]) := by unfold stepD; rw [if_neg c]
      rw [e]
      obtain ⟨q1, q2⟩ := stepD_fold s0 ms (l ++ [m]) (s ++ [m.gid]) hn'.2 (fun x hx => by
        rw [List.mem_append, List.mem_singleton]
        have hne : x.gid ≠ m.gid := fun e => hn'.1 (by rw [← e]; exact List.mem_map_of_mem hx)
        have := h1 x (List.mem_cons_of_mem _ hx)
        constructor
        · rintro (q | q)
          · exact this.1 q
          · exact (hne q).elim
        · exact fun q => .inl (this.2 q)) (fun g hg => List.mem_append_left _ (h2 g hg))
      refine ⟨by rw [q1]; simp [c0], fun g => ?_⟩
      rw [q2]
      simp only [gids, List.map_cons, List.mem_cons, List.mem_append, List.not_mem_nil, or_false, or_assoc]
theorem stepD_len (s : List Mail × List Int) (m : Mail) : (stepD s m).1.length ≤ s.1.length + 1 ∧ (stepD s m).2.length ≤ s.2.length + 1 := by
  unfold stepD
  split
  · omega
  · simp
def sz5 (c : JzC) : List T := [I c.who, I c.time, .row 13500 c.w 0 c.L.length, .row 11900 c.z 0 c.gone.length]
def sz1S (c : JzC) (i : Nat) (j : Nat) (s : List Mail × List Int) (y : Nat × Nat × Nat) : St := { t := [(4, .c (.ptr 4 c.u4 0 0)), (5, .c (.ptr 5 c.u6 0 0)), (6, .c (.row 37 y.1 0 s.2.length)), (7, .c (I i)), (8, .c (.row 45 y.2.1 0 s.1.length)), (9, .c (I j))], o := [(4, ⟨c.u4, 4, true, true, [szero]⟩), (5, ⟨c.u6, 4, true, true, [sz5 c]⟩), (37, ⟨y.1, 1, true, false, irow s.2⟩), (45, ⟨y.2.1, 4, true, false, s.1.map encMail⟩), (11900, ⟨c.z, 1, false, false, irow c.gone⟩), (13500, ⟨c.w, 7, true, false, (dedTo c.L i).map encBox⟩)], n := y.2.2 }
def sz1E (c : JzC) (i : Nat) (x : Box) (s : List Mail × List Int) (y : Nat × Nat × Nat) : St := { t := [(4, .c (.ptr 4 c.u4 0 0)), (5, .c (.ptr 5 c.u6 0 0)), (6, .c (.row 37 y.1 0 s.2.length)), (7, .c (I i)), (8, .c (.row 45 y.2.1 0 s.1.length)), (9, .c (I x.mails.length)), (54, .c (.bool false))], o := [(4, ⟨c.u4, 4, true, true, [szero]⟩), (5, ⟨c.u6, 4, true, true, [sz5 c]⟩), (37, ⟨y.1, 1, true, false, irow s.2⟩), (45, ⟨y.2.1, 4, true, false, s.1.map encMail⟩), (11900, ⟨c.z, 1, false, false, irow c.gone⟩), (13500, ⟨c.w, 7, true, false, (dedTo c.L i).map encBox⟩)], n := y.2.2 }
set_option maxHeartbeats 2000000 in
theorem sz1_loop (kc : spec_l06In.k M) (k : Nat) (c : JzC) (i : Nat) (hi : i < c.L.length) (s0 : List Int) (hs0 : s0.length ≤ 4194304) (hx : c.L[i].mails.length ≤ 1048576) (hk : c.L[i].mails.length < k) (y : Nat × Nat × Nat) :
    ∃ z, loopN (exC (run M) k spec_JoinStore.l1) k (sz1S c i 0 ([], s0) y) = some (.exit 2, sz1E c i c.L[i] (c.L[i].mails.foldl stepD ([], s0)) z) := by
  have el : ((dedTo c.L i).map encBox).length = c.L.length := by simp [dedTo_len]
  have a0 : ∀ hh, ((dedTo c.L i).map encBox)[i]'hh = encBox c.L[i] := by
    intro hh; simp only [List.getElem_map, dedTo_at c.L i hi]
  obtain ⟨x, hxx⟩ : ∃ x, x = c.L[i] := ⟨_, rfl⟩
  rw [← hxx] at a0 hx hk ⊢
  have er : (x.mails.map encMail).length = x.mails.length := by simp
  obtain ⟨g, hr⟩ := fold_loop (f := exC (run M) k spec_JoinStore.l1) x.mails stepD (fun i s => s.1.length ≤ i ∧ s.2.length ≤ 4194304 + i) (sz1S c i) 2 (sz1E c i x)
    (fun i h s hs => by have := stepD_len s x.mails[i]; omega)
    (fun j hj s y hs => by
      obtain ⟨v, v4, n⟩ := y
      obtain ⟨l, sn⟩ := s
      simp only at hs
      have e5 : IntKind.i64.wrap ((j : Int) + 1) = (j : Int) + 1 := wrap_i64 (by omega) (by omega)
      have e6 : l.length + 1 ≤ 4294967296 := by omega
      have e7 : sn.length + 1 ≤ 4294967296 := by omega
      have e9 : (l.map encMail).length = l.length := by simp
      have e10 := irow_length sn
      have h1 := spec_l06In.says kc sn x.mails[j].gid (by omega)
      have a1 : ∀ hh, (x.mails.map encMail)[j]'hh = encMail x.mails[j] := by intro hh; simp
      simp only [Prod.exists]
      unfold stepD
      by_cases q : x.mails[j].gid ∈ sn
      · rw [decide_eq_true q] at h1
        simp only [q, if_true, sz1S, sz5]
        simp only [encBox, mails, ints, encMail, regs] at a0 a1 h1 ⊢
        generalize x.mails.map encMail = rx at *
        generalize irow x.gone = rxg at *
        generalize irow sn = rs at *
        generalize (dedTo c.L i).map encBox = rd at *
        generalize l.map encMail = rl at *
        generalize x.mails[j].flags.map encReg = rf at *
        simp (maxSteps := 1000000) [spec_JoinStore.l1, List.range_succ, bs_get, setAt, hi, hj, h1, e5, e10, er, el, a0, a1, List.take_of_length_le]
      · rw [decide_eq_false q] at h1
        simp only [q, if_false, sz1S, sz5, irow_snoc, List.map_append, List.map_cons, List.map_nil, List.length_append, List.length_singleton]
        simp only [encBox, mails, ints, encMail, regs] at a0 a1 h1 ⊢
        generalize x.mails.map encMail = rx at *
        generalize irow x.gone = rxg at *
        generalize irow sn = rs at *
        generalize (dedTo c.L i).map encBox = rd at *
        generalize l.map encMail = rl at *
        generalize x.mails[j].flags.map encReg = rf at *
        simp (maxSteps := 1000000) [spec_JoinStore.l1, List.range_succ, bs_get, setAt, hi, hj, h1, e5, e6, e7, e9, e10, er, el, a0, a1, List.take_of_length_le])
    (fun s y hs => by
      obtain ⟨v, v4, n⟩ := y
      obtain ⟨l, sn⟩ := s
      simp only [Prod.exists, sz1S, sz1E, sz5]
      simp only [encBox, mails, ints] at a0 ⊢
      generalize x.mails.map encMail = rx at *
      generalize irow x.gone = rxg at *
      generalize irow sn = rs at *
      generalize (dedTo c.L i).map encBox = rd at *
      generalize l.map encMail = rl at *
      simp (maxSteps := 1000000) [spec_JoinStore.l1, List.range_succ, bs_get, setAt, hi, er, el, a0]) ([], s0) ⟨by simp, by simp only; omega⟩
  exact ⟨_, loopN_le (hr y) (by omega)⟩
end Mx

namespace Mx
open Go
variable {M : Nat → Option Body}
structure SzS where
  i : Nat
  seen : List Int
  v : Nat
  n : Nat
def sz0S (c : JzC) (s : SzS) : St := { t := [(4, .c (.ptr 4 c.u4 0 0)), (5, .c (.ptr 5 c.u6 0 0)), (6, .c (.row 37 s.v 0 s.seen.length)), (7, .c (I s.i))], o := [(4, ⟨c.u4, 4, true, true, [szero]⟩), (5, ⟨c.u6, 4, true, true, [sz5 c]⟩), (37, ⟨s.v, 1, true, false, irow s.seen⟩), (11900, ⟨c.z, 1, false, false, irow c.gone⟩), (13500, ⟨c.w, 7, true, false, (dedTo c.L s.i).map encBox⟩)], n := s.n }
def sz0E (c : JzC) (s : SzS) : St := { t := [(4, .c (.ptr 4 c.u4 0 0)), (5, .c (.ptr 5 c.u6 0 0)), (6, .c (.row 37 s.v 0 s.seen.length)), (7, .c (I s.i)), (42, .c (.bool false))], o := [(4, ⟨c.u4, 4, true, true, [szero]⟩), (5, ⟨c.u6, 4, true, true, [sz5 c]⟩), (37, ⟨s.v, 1, true, false, irow s.seen⟩), (11900, ⟨c.z, 1, false, false, irow c.gone⟩), (13500, ⟨c.w, 7, true, false, (dedTo c.L s.i).map encBox⟩)], n := s.n }
structure SzI (c : JzC) (s : SzS) : Prop where
  i : s.i ≤ c.L.length
  mem : ∀ g, g ∈ s.seen ↔ g ∈ seenI c.L s.i
  len : s.seen.length ≤ 100 * s.i
set_option maxHeartbeats 2000000 in
theorem sz0_turn (kc : spec_l06In.k M) (k : Nat) (hk : 200 ≤ k) (c : JzC) (hL : c.L.length ≤ 1000) (hb : ∀ b ∈ c.L, b.mails.length ≤ 100 ∧ (gids b.mails).Nodup) (s : SzS) (hI : SzI c s) (hs : s.i < c.L.length) :
    ∃ s', exC (run M) k spec_JoinStore.l0 (sz0S c s) = some (.normal, sz0S c s') ∧ SzI c s' ∧ s'.i = s.i + 1 := by
  obtain ⟨i, sn, v, n⟩ := s
  obtain ⟨_, hm, hl⟩ := hI
  simp only at hs hm hl
  obtain ⟨hx, hnd⟩ := hb _ (List.getElem_mem hs)
  obtain ⟨⟨v5, v4, n4⟩, r1⟩ := sz1_loop kc k c i hs sn (by omega) (by omega) (by omega) (v, n + 80, n + 128)
  obtain ⟨f1, f2⟩ := stepD_fold sn c.L[i].mails [] sn hnd (fun _ _ => Iff.rfl) (fun _ h => h)
  rw [List.nil_append] at f1
  have f3 : (c.L[i].mails.foldl stepD ([], sn)).1.length ≤ c.L[i].mails.length ∧ (c.L[i].mails.foldl stepD ([], sn)).2.length ≤ sn.length + c.L[i].mails.length := by
    have key : ∀ ms : List Mail, (ms.foldl stepD ([], sn)).1.length ≤ ms.length ∧ (ms.foldl stepD ([], sn)).2.length ≤ sn.length + ms.length := fun ms =>
      foldl_inv ms stepD (fun j s => s.1.length ≤ j ∧ s.2.length ≤ sn.length + j) (fun j h s hs => by have := stepD_len s ms[j]; omega) ([], sn) ⟨by simp, by simp⟩
    exact key _
  have hded : dedOne c.L i c.L[i] = { c.L[i] with mails := (c.L[i].mails.foldl stepD ([], sn)).1 } := by
    unfold dedOne
    rw [f1]
    congr 1
    apply List.filter_congr
    intro m _
    congr 1
    exact decide_eq_decide.2 (hm m.gid).symm
  have t3 : (dedTo c.L (i + 1)).map encBox = ((dedTo c.L i).map encBox).set i (encBox (dedOne c.L i c.L[i])) := by rw [dedTo_succ c.L i hs, List.map_set]
  rw [hded] at t3
  have e5 : IntKind.i64.wrap ((i : Int) + 1) = (i : Int) + 1 := wrap_i64 (by omega) (by omega)
  have ez : ((0 : Nat) : Int) = 0 := rfl
  have el : ((dedTo c.L i).map encBox).length = c.L.length := by simp [dedTo_len]
  have a1 : ∀ hh, ((dedTo c.L i).map encBox)[i]'hh = encBox c.L[i] := by
    intro hh; simp only [List.getElem_map, dedTo_at c.L i hs]
  have hh : ∃ n', exC (run M) k spec_JoinStore.l0 (sz0S c ⟨i, sn, v, n⟩) = some (.normal, sz0S c ⟨i + 1, (c.L[i].mails.foldl stepD ([], sn)).2, v5, n'⟩) := by
    simp only [sz1S, sz1E, ez, List.map_nil, List.length_nil] at r1
    simp only [sz0S, t3]
    clear t3 hded f1 f2 hm
    have efl : ((c.L[i].mails.foldl stepD ([], sn)).1.map encMail).length = (c.L[i].mails.foldl stepD ([], sn)).1.length := by simp
    generalize c.L[i].mails.foldl stepD ([], sn) = F at *
    obtain ⟨fl, fs⟩ := F
    simp only [encBox, mails, ints, sz5] at r1 a1 efl ⊢
    generalize fl.map encMail = rl at *
    generalize irow fs = rfs at *
    generalize irow sn = rs at *
    generalize (dedTo c.L i).map encBox = rd at *
    generalize c.L[i] = x at *
    generalize c.L.length = N at *
    generalize x.mails.map encMail = rx at *
    generalize irow x.gone = rg at *
    generalize irow c.gone = rcg at *
    simp (maxSteps := 1000000) [spec_JoinStore.l0, List.range_succ, bs_get, setAt, hs, r1, e5, el, a1, efl, List.take_of_length_le]
  obtain ⟨n', hh⟩ := hh
  refine ⟨_, hh, ⟨hs, fun g => ?_, ?_⟩, rfl⟩
  · simp only
    rw [f2, seenI_succ c.L i hs, List.mem_append, hm]
  · simp only; omega
theorem sz0_end (k : Nat) (c : JzC) (s : SzS) (hs : ¬ s.i < c.L.length) :
    ∃ n', exC (run M) k spec_JoinStore.l0 (sz0S c s) = some (.exit 0, sz0E c { s with n := n' }) := by
  obtain ⟨i, sn, v, n⟩ := s
  simp only at hs
  simp only [sz0S, sz0E, sz5]
  generalize (dedTo c.L i).map encBox = rd at *
  simp (maxSteps := 1000000) [spec_JoinStore.l0, List.range_succ, bs_get, setAt, hs]
end Mx

namespace Mx
open Go
variable {M : Nat → Option Body}
theorem boxIn_none {l : List Box} {g : Int} : boxIn l g = none ↔ ∀ m ∈ l, m.gid ≠ g := by
  unfold boxIn; rw [List.find?_eq_none]; simp
theorem boxIn_mem {l : List Box} (h : (l.map (·.gid)).Nodup) {m : Box} (hm : m ∈ l) : boxIn l m.gid = some m := by
  induction l with
  | nil => simp at hm
  | cons x l ih =>
    rw [List.map_cons, List.nodup_cons] at h
    unfold boxIn at ih ⊢
    rw [List.find?_cons]
    rcases List.mem_cons.1 hm with rfl | hm
    · simp
    · have : x.gid ≠ m.gid := fun e => h.1 (by rw [e]; exact List.mem_map_of_mem hm)
      simp only [this, decide_false]
      exact ih h.2 hm
theorem joinB_gid {a b : List Box} {g : Int} (h : g ∈ gidsB a ∨ g ∈ gidsB b) : (joinB a b g).gid = g := by
  unfold joinB
  cases h1 : boxIn a g with
  | some x =>
    cases h2 : boxIn b g with
    | some y => simp only [joinBox_gid]; exact (boxIn_some h1).2
    | none => exact (boxIn_some h1).2
  | none =>
    cases h2 : boxIn b g with
    | some y => exact (boxIn_some h2).2
    | none =>
      exfalso
      rw [boxIn_none] at h1 h2
      rcases h with h | h
      · obtain ⟨m, hm, e⟩ := List.mem_map.1 h; exact h1 m hm e
      · obtain ⟨m, hm, e⟩ := List.mem_map.1 h; exact h2 m hm e
theorem allB_iff {a b : List Box} (ha : (gidsB a).Nodup) (hb : (gidsB b).Nodup) {m : Box} : m ∈ allB a b ↔ (m.gid ∈ gidsB a ∨ m.gid ∈ gidsB b) ∧ m = joinB a b m.gid := by
  simp only [allB, firstB, List.mem_append, List.mem_map, List.mem_filter]
  constructor
  · rintro (⟨x, hx, rfl⟩ | ⟨hm, hn⟩)
    · have h1 := boxIn_mem ha hx
      have hg : x.gid ∈ gidsB a := List.mem_map_of_mem hx
      cases h2 : boxIn b x.gid with
      | some y =>
        simp only [joinBox_gid]
        refine ⟨.inl hg, ?_⟩
        simp only [joinB, h1, h2]
      | none =>
        simp only
        refine ⟨.inl hg, ?_⟩
        simp only [joinB, h1, h2]
    · have h1 := boxIn_mem hb hm
      simp only [Option.isNone_iff_eq_none] at hn
      refine ⟨.inr (List.mem_map_of_mem hm), ?_⟩
      simp only [joinB, h1, hn]
  · rintro ⟨h, e⟩
    cases h1 : boxIn a m.gid with
    | some x =>
      left
      obtain ⟨k1, k2⟩ := boxIn_some h1
      refine ⟨x, k1, ?_⟩
      rw [e, k2]
      simp only [joinB, h1]
      cases h2 : boxIn b m.gid <;> rfl
    | none =>
      right
      cases h2 : boxIn b m.gid with
      | none =>
        exfalso
        rw [boxIn_none] at h1 h2
        rcases h with h | h
        · obtain ⟨m', hm, e⟩ := List.mem_map.1 h; exact h1 m' hm e
        · obtain ⟨m', hm, e⟩ := List.mem_map.1 h; exact h2 m' hm e
      | some y =>
        refine ⟨?_, by simp⟩
        have : m = y := by rw [e]; simp only [joinB, h1, h2]
        rw [this]; exact (boxIn_some h2).1
theorem allB_nodup {a b : List Box} (ha : (gidsB a).Nodup) (hb : (gidsB b).Nodup) : (gidsB (allB a b)).Nodup := by
  have e1 : gidsB (firstB a b) = gidsB a := by
    unfold gidsB firstB; rw [List.map_map]
    apply List.map_congr_left
    intro m _
    simp only [Function.comp]
    split
    · exact joinBox_gid _ _
    · rfl
  unfold allB
  rw [gidsB, List.map_append]
  change (gidsB _ ++ gidsB _).Nodup
  rw [e1, List.nodup_append]
  refine ⟨ha, ?_, ?_⟩
  · exact hb.sublist (List.Sublist.map _ List.filter_sublist)
  · intro x hx y hy e
    subst e
    obtain ⟨m, hm, rfl⟩ := List.mem_map.1 hy
    rw [List.mem_filter] at hm
    simp only [Option.isNone_iff_eq_none, boxIn_none] at hm
    obtain ⟨m', hm', e⟩ := List.mem_map.1 hx
    exact hm.2 m' hm' e
theorem srtB_eq {a b : List Box} (G : List Int) (ha : (gidsB a).Nodup) (hb : (gidsB b).Nodup) :
    sortBy (·.gid) ((allB a b).filter fun m => !decide (m.gid ∈ G)) = ((joinGone (gidsB a) (gidsB b)).filter fun g => !decide (g ∈ G)).map (joinB a b) := by
  refine ascBy_ext (k := fun m : Box => m.gid) ?_ ?_ fun m => ?_
  · refine asc_of_sorted (sortBy_sorted _) ?_
    have hp := (sortBy_perm (k := fun m : Box => m.gid) ((allB a b).filter fun m => !decide (m.gid ∈ G))).map (fun m : Box => m.gid)
    rw [hp.nodup_iff]
    exact (allB_nodup ha hb).sublist (List.Sublist.map _ List.filter_sublist)
  · rw [AscBy, List.pairwise_map]
    have h := (joinGone_asc (gidsB a) (gidsB b)).filter (fun g => !decide (g ∈ G))
    refine List.Pairwise.imp_of_mem ?_ h
    intro x y hx hy hxy
    rw [List.mem_filter, joinGone_mem] at hx hy
    rw [joinB_gid hx.1, joinB_gid hy.1]
    exact hxy
  · rw [sortBy_mem, List.mem_filter, allB_iff ha hb, List.mem_map]
    constructor
    · rintro ⟨⟨h1, h2⟩, h3⟩
      exact ⟨m.gid, List.mem_filter.2 ⟨(joinGone_mem _ _ _).2 h1, h3⟩, h2.symm⟩
    · rintro ⟨g, hg, rfl⟩
      rw [List.mem_filter, joinGone_mem] at hg
      have := joinB_gid hg.1
      rw [this]
      exact ⟨⟨hg.1, rfl⟩, hg.2⟩
end Mx

namespace Mx
open Go
variable {M : Nat → Option Body}
theorem joinBoxes_eq {a b : Store} (ha : StoreGood a) (hb : StoreGood b) (G : List Int) : joinBoxesI a.boxes b.boxes G = joinBoxesS a.boxes b.boxes G := by
  have nd : ∀ {s : Store}, StoreGood s → (gidsB s.boxes).Nodup := fun {s} h => List.pairwise_map.2 (h.asc.imp fun q => by omega)
  unfold joinBoxesI joinBoxesS
  rw [srtB_eq G (nd ha) (nd hb)]
theorem sz0_loop (kc : spec_l06In.k M) (k : Nat) (hk : 1200 ≤ k) (c : JzC) (hL : c.L.length ≤ 1000) (hb : ∀ b ∈ c.L, b.mails.length ≤ 100 ∧ (gids b.mails).Nodup) (v n : Nat) :
    ∃ s', loopN (exC (run M) k spec_JoinStore.l0) k (sz0S c ⟨0, [], v, n⟩) = some (.exit 0, sz0E c s') ∧ s'.i = c.L.length := by
  obtain ⟨r, hr, s', rfl, hi⟩ := loop_ex (f := exC (run M) k spec_JoinStore.l0) (sz0S c) (SzI c) (fun s => c.L.length - s.i) (fun r => ∃ s', r = (.exit 0, sz0E c s') ∧ s'.i = c.L.length)
    (fun s hs => by
      by_cases q : s.i < c.L.length
      · left
        obtain ⟨s', hh, hI, hi⟩ := sz0_turn kc k (by omega) c hL hb s hs q
        exact ⟨_, hh, hI, by omega⟩
      · right
        obtain ⟨n', hh⟩ := sz0_end (M := M) k c s q
        have := hs.i
        exact ⟨_, hh, by simp, _, rfl, by simp only; omega⟩) k ⟨0, [], v, n⟩ ⟨by simp, fun g => by simp [seenI], by simp⟩ (by simp only; omega)
  exact ⟨s', hr, hi⟩
set_option maxHeartbeats 4000000 in
theorem spec_JoinStore.says (h : spec_JoinStore.k M) (a b : Store) (ha : StoreGood a) (hb : StoreGood b) :
    run M 446 [.a (encStore a), .a (encStore b)] [] = some (.a [I a.who, I (Max.max a.time b.time), .sl true 7 ((joinStoreI a b).boxes.map encBox), .sl false 1 (irow (joinStoreI a b).gone)], []) := by
  obtain ⟨h0, kg, kin, kb⟩ := h
  have hga := ha.gone
  have hgb := hb.gone
  have hgj := joinGone_le a.gone b.gone
  have h1 := spec_JoinGone.says kg a.gone b.gone (by omega) (by omega)
  have h2 := spec_JoinBoxes.says kb a.boxes b.boxes (joinGone a.gone b.gone) ha.boxes hb.boxes (by omega)
  rw [← joinBoxes_eq ha hb] at h2
  have hLl := joinBoxesI_len ha.boxes hb.boxes (joinGone a.gone b.gone)
  have hLs := joinBoxesI_small ha.boxes hb.boxes (joinGone a.gone b.gone)
  simp only [joinStoreI]
  have eg := irow_length (joinGone a.gone b.gone)
  generalize joinGone a.gone b.gone = G at *
  generalize joinBoxesI a.boxes b.boxes G = L at *
  have hLb : ∀ x ∈ L, x.mails.length ≤ 100 ∧ (gids x.mails).Nodup := fun x hx => ⟨by have := (hLs x hx).m; omega, (hLs x hx).d⟩
  obtain ⟨⟨i1, sn1, v1, n1⟩, r1, hi1⟩ := sz0_loop kin 1200 (by omega) ⟨2000032, 2000208, 2000480, 2000176, a.who, b.time, G, L⟩ (by simp only; omega) hLb 2000528 2000576
  obtain ⟨⟨i2, sn2, v2, n2⟩, r2, hi2⟩ := sz0_loop kin 1200 (by omega) ⟨2000032, 2000208, 2000416, 2000176, a.who, a.time, G, L⟩ (by simp only; omega) hLb 2000464 2000512
  simp only at hi1 hi2
  subst hi1
  subst hi2
  refine run_code (b := spec_JoinStore.m) h0 ⟨1200, ?_⟩
  have el : (L.map encBox).length = L.length := by simp
  have el2 : ((ded L).map encBox).length = L.length := by simp [ded]
  have ez : ((0 : Nat) : Int) = 0 := rfl
  have em := max_int a.time b.time
  simp only [sz0S, sz0E, sz5, dedTo_zero, dedTo_all, ez, irow_nil, List.length_nil] at r1 r2
  generalize hmx : Max.max a.time b.time = mx at *
  clear hmx hLs hLb
  generalize (ded L).map encBox = RD at *
  generalize L.map encBox = RL at *
  generalize L.length = N at *
  simp only [encStore, boxes, ints] at *
  generalize irow G = rg at *
  generalize G.length = ng at *
  generalize a.boxes.map encBox = ra at *
  generalize b.boxes.map encBox = rb at *
  generalize irow a.gone = ga at *
  generalize irow b.gone = gb at *
  by_cases c : a.time < b.time
  · rw [if_pos c] at em
    subst em
    simp (maxSteps := 1000000) [exB, spec_JoinStore.m, spec_JoinStore.b, List.range_succ, bs_get, setAt, h1, h2, r1, c, el, el2, eg, List.take_of_length_le]
  · rw [if_neg c] at em
    subst em
    simp (maxSteps := 1000000) [exB, spec_JoinStore.m, spec_JoinStore.b, List.range_succ, bs_get, setAt, h1, h2, r2, c, el, el2, eg, List.take_of_length_le]
def fitsStore (a b : Store) : Bool := storeOk a && storeOk b && storeOk (joinStoreI a b)
theorem joinStoreI_in {a b : Store} (ha : StoreGood a) (hb : StoreGood b) : StoreIn (joinStoreI a b) := by
  have h1 := joinGone_le a.gone b.gone
  have h2 := ha.gone
  have h3 := hb.gone
  have h4 := joinBoxesI_len ha.boxes hb.boxes (joinGone a.gone b.gone)
  refine ⟨by simp only [joinStoreI, ded, List.length_mapIdx]; omega, by simp only [joinStoreI]; omega, ded_in _ (joinBoxesI_small ha.boxes hb.boxes (joinGone a.gone b.gone)), ?_⟩
  have hs := ded_in (joinBoxesI a.boxes b.boxes (joinGone a.gone b.gone)) (joinBoxesI_small ha.boxes hb.boxes (joinGone a.gone b.gone))
  have key : ∀ l : List Box, (∀ x ∈ l, x.mails.length ≤ 20) → (l.flatMap gidsOf).length ≤ 20 * l.length := by
    intro l
    induction l with
    | nil => intro _; simp
    | cons x l ih =>
      intro h
      have h1 := ih fun y hy => h y (List.mem_cons_of_mem _ hy)
      have h2 := h x (List.mem_cons_self ..)
      simp only [List.flatMap_cons, List.length_append, gidsOf, List.length_map, List.length_cons] at h1 ⊢
      omega
  have hk := key (joinStoreI a b).boxes fun x hx => by
    obtain ⟨i, hi, rfl⟩ := List.getElem_of_mem hx
    simp only [joinStoreI, ded, List.length_mapIdx] at hi
    simp only [joinStoreI, ded, List.getElem_mapIdx, dedOne]
    have S := joinBoxesI_small ha.boxes hb.boxes (joinGone a.gone b.gone) _ (List.getElem_mem hi)
    exact Nat.le_trans (List.length_filter_le _ _) S.m
  have hl : (joinStoreI a b).boxes.length ≤ 10 := by simp only [joinStoreI, ded, List.length_mapIdx]; exact h4
  omega
set_option maxHeartbeats 1000000 in
theorem impl_FitsStore.says (h : impl_FitsStore.k M) (a b : Store) (ha : StoreIn a) (hb : StoreIn b) : run M 433 [.a (encStore a), .a (encStore b)] [] = some (.c (.bool (fitsStore a b)), []) := by
  obtain ⟨h0, ks, kj⟩ := h
  have h1 := impl_StoreOk.says ks a ha
  have h2 := impl_StoreOk.says ks b hb
  refine run_code (b := impl_FitsStore.m) h0 ⟨0, ?_⟩
  unfold fitsStore
  cases c1 : storeOk a with
  | false =>
    rw [c1] at h1
    simp only [encStore, boxes, ints] at *
    generalize a.boxes.map encBox = ra at *
    generalize b.boxes.map encBox = rb at *
    generalize irow a.gone = ga at *
    generalize irow b.gone = gb at *
    simp (maxSteps := 1000000) [exB, impl_FitsStore.m, impl_FitsStore.b, List.range_succ, bs_get, setAt, h1, List.take_of_length_le]
  | true =>
    rw [c1] at h1
    cases c2 : storeOk b with
    | false =>
      rw [c2] at h2
      simp only [encStore, boxes, ints] at *
      generalize a.boxes.map encBox = ra at *
      generalize b.boxes.map encBox = rb at *
      generalize irow a.gone = ga at *
      generalize irow b.gone = gb at *
      simp (maxSteps := 1000000) [exB, impl_FitsStore.m, impl_FitsStore.b, List.range_succ, bs_get, setAt, h1, h2, List.take_of_length_le]
    | true =>
      rw [c2] at h2
      have h3 := impl_JoinStore.says kj a b (storeOk_good c1) (storeOk_good c2)
      have h4 := impl_StoreOk.says ks _ (joinStoreI_in (storeOk_good c1) (storeOk_good c2))
      have e1 : (joinStoreI a b).who = a.who := rfl
      have e2 : (joinStoreI a b).time = Max.max a.time b.time := rfl
      simp only [encStore, boxes, ints, e1, e2] at *
      generalize Max.max a.time b.time = mx at *
      generalize storeOk (joinStoreI a b) = w at *
      generalize (joinStoreI a b).boxes.map encBox = rj at *
      generalize irow (joinStoreI a b).gone = gj at *
      generalize a.boxes.map encBox = ra at *
      generalize b.boxes.map encBox = rb at *
      generalize irow a.gone = ga at *
      generalize irow b.gone = gb at *
      simp (maxSteps := 1000000) [exB, impl_FitsStore.m, impl_FitsStore.b, List.range_succ, bs_get, setAt, h1, h2, h3, h4, List.take_of_length_le]
set_option maxHeartbeats 1000000 in
theorem spec_FitsStore.says (h : spec_FitsStore.k M) (a b : Store) (ha : StoreIn a) (hb : StoreIn b) : run M 432 [.a (encStore a), .a (encStore b)] [] = some (.c (.bool (fitsStore a b)), []) := by
  obtain ⟨h0, ks, kj⟩ := h
  have h1 := spec_StoreOk.says ks a ha
  have h2 := spec_StoreOk.says ks b hb
  refine run_code (b := spec_FitsStore.m) h0 ⟨0, ?_⟩
  unfold fitsStore
  cases c1 : storeOk a with
  | false =>
    rw [c1] at h1
    simp only [encStore, boxes, ints] at *
    generalize a.boxes.map encBox = ra at *
    generalize b.boxes.map encBox = rb at *
    generalize irow a.gone = ga at *
    generalize irow b.gone = gb at *
    simp (maxSteps := 1000000) [exB, spec_FitsStore.m, spec_FitsStore.b, List.range_succ, bs_get, setAt, h1, List.take_of_length_le]
  | true =>
    rw [c1] at h1
    cases c2 : storeOk b with
    | false =>
      rw [c2] at h2
      simp only [encStore, boxes, ints] at *
      generalize a.boxes.map encBox = ra at *
      generalize b.boxes.map encBox = rb at *
      generalize irow a.gone = ga at *
      generalize irow b.gone = gb at *
      simp (maxSteps := 1000000) [exB, spec_FitsStore.m, spec_FitsStore.b, List.range_succ, bs_get, setAt, h1, h2, List.take_of_length_le]
    | true =>
      rw [c2] at h2
      have h3 := spec_JoinStore.says kj a b (storeOk_good c1) (storeOk_good c2)
      have h4 := spec_StoreOk.says ks _ (joinStoreI_in (storeOk_good c1) (storeOk_good c2))
      have e1 : (joinStoreI a b).who = a.who := rfl
      have e2 : (joinStoreI a b).time = Max.max a.time b.time := rfl
      simp only [encStore, boxes, ints, e1, e2] at *
      generalize Max.max a.time b.time = mx at *
      generalize storeOk (joinStoreI a b) = w at *
      generalize (joinStoreI a b).boxes.map encBox = rj at *
      generalize irow (joinStoreI a b).gone = gj at *
      generalize a.boxes.map encBox = ra at *
      generalize b.boxes.map encBox = rb at *
      generalize irow a.gone = ga at *
      generalize irow b.gone = gb at *
      simp (maxSteps := 1000000) [exB, spec_FitsStore.m, spec_FitsStore.b, List.range_succ, bs_get, setAt, h1, h2, h3, h4, List.take_of_length_le]
theorem storeIn_w2 {s : Store} (h : wStore s ≤ 1048576) : StoreIn s := by
  unfold wStore at h
  have h2 : wBoxes s.boxes ≤ 1048576 := by omega
  have hb : ∀ b ∈ s.boxes, BoxIn b := by
    intro b hb
    have := Nat.le_trans (wBox_le hb) h2
    obtain ⟨w1, w2, w3, w4⟩ := wBox_all this
    exact ⟨w1, w2, w3, w4⟩
  refine ⟨by unfold wBoxes at h2; omega, by omega, hb, ?_⟩
  have key : ∀ l : List Box, (l.flatMap gidsOf).length ≤ (l.map wBox).sum := by
    intro l
    induction l with
    | nil => simp
    | cons b l ih =>
      have : (gidsOf b).length ≤ wBox b := by rw [gidsOf_len]; unfold wBox wMails; omega
      simp only [List.flatMap_cons, List.length_append, List.map_cons, List.sum_cons]; omega
  have := key s.boxes
  unfold wBoxes at h2; omega
theorem laws_FnExactFitsStore.says (h : laws_FnExactFitsStore.k M) (a b : Store) (ha : StoreFits a) (hb : StoreFits b) : run M 398 [.a (encStore a), .a (encStore b)] [] = some (.c (.bool true), []) := by
  obtain ⟨h0, k1, k2, k5, k3, k4⟩ := h
  have h1 := laws_szStore.says k1 a ha 1048576 (by omega)
  refine run_code (b := laws_FnExactFitsStore.m) h0 ⟨0, ?_⟩
  by_cases c : 1048576 < wStore a
  · rw [if_pos c] at h1
    simp only [Int.cast_ofNat_Int, encStore] at h1
    simp (maxSteps := 1000000) [exB, laws_FnExactFitsStore.m, laws_FnExactFitsStore.b, List.range_succ, bs_get, setAt, h1]
  rw [if_neg c] at h1
  simp only [Int.cast_ofNat_Int] at h1
  have hw : wStore a ≤ 1048576 := by omega
  have e1 : ¬ (1048576 : Int) - wStore a < 0 := by omega
  have h1' := laws_szStore.says k1 b hb (1048576 - wStore a) (by omega)
  rw [show ((1048576 - wStore a : Nat) : Int) = 1048576 - (wStore a : Int) by omega] at h1'
  by_cases c2 : 1048576 - wStore a < wStore b
  · rw [if_pos c2] at h1'
    simp only [encStore] at h1 h1'
    simp (maxSteps := 1000000) [exB, laws_FnExactFitsStore.m, laws_FnExactFitsStore.b, List.range_succ, bs_get, setAt, h1, h1', e1]
  rw [if_neg c2] at h1'
  have hw2 : wStore b ≤ 1048576 := by omega
  have e2 : ¬ (1048576 : Int) - wStore a - wStore b < 0 := by omega
  have hin := storeIn_w2 hw
  have hin2 := storeIn_w2 hw2
  have h2 := laws_toStore.says k2 a hw
  have h2' := laws_toStore.says k2 b hw2
  have h3 := spec_FitsStore.says k3 a b hin hin2
  have h4 := impl_FitsStore.says k4 a b hin hin2
  have h5 := laws_eqStore.says k5 a hw
  have h5' := laws_eqStore.says k5 b hw2
  generalize fitsStore a b = x at *
  simp only [encStore, encStoreO] at h1 h1' h2 h2' h3 h4 h5 h5'
  simp (maxSteps := 1000000) [exB, laws_FnExactFitsStore.m, laws_FnExactFitsStore.b, List.range_succ, bs_get, setAt, h1, h1', h2, h2', h3, h4, h5, h5', e1, e2, List.take_of_length_le]
theorem laws_FnExactFitsStore.row (h : laws_FnExactFitsStore.k M) {as : List V} (ha : HasVs [.struct ctStore, .struct ctStore] as) : run M 398 as [] = some (.c (.bool true), []) := by
  cases ha with | cons h0 ha =>
  cases ha with | cons h1 ha =>
  cases ha
  cases h0 with | struct h0 =>
  cases h1 with | struct h1 =>
  obtain ⟨a, rfl, ha⟩ := has_store h0
  obtain ⟨b, rfl, hb⟩ := has_store h1
  exact laws_FnExactFitsStore.says h a b ha hb
end Mx
