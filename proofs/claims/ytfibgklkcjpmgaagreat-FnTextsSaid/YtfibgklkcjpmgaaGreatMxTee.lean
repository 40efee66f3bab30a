/-
  What more of the functions compute, each by a small evaluation; no condition beyond what each says.
-/
import Derived.Test.YtfibgklkcjpmgaaGreatMxTed
set_option linter.unusedSimpArgs false
set_option linter.unusedVariables false
namespace Mx
open Go
variable {M : Nat → Option Body}
/-- small enough to be held against another -/
structure BoxEq (b : Box) : Prop where
  m : b.mails.length ≤ 1048576
  g : b.gone.length ≤ 1048576
  f : ∀ m ∈ b.mails, m.flags.length ≤ 1048576
structure StoreEq (s : Store) : Prop where
  b : s.boxes.length ≤ 1048576
  g : s.gone.length ≤ 1048576
  box : ∀ b ∈ s.boxes, BoxEq b
def sbS (a b : Box) (i : Nat) (x : Nat × Nat × Nat) : St := { t := [(2, .c (.ptr 2 x.1 0 0)), (3, .c (.ptr 3 x.2.1 0 0)), (5, .c (I i))], o := [(2, ⟨x.1, 7, true, true, [encBox a]⟩), (3, ⟨x.2.1, 7, true, true, [encBox b]⟩)], n := x.2.2 }
def sbE (a b : Box) (x : Nat × Nat × Nat) : St := { t := [(2, .c (.ptr 2 x.1 0 0)), (3, .c (.ptr 3 x.2.1 0 0)), (5, .c (I a.mails.length)), (55, .c (.bool false))], o := [(2, ⟨x.1, 7, true, true, [encBox a]⟩), (3, ⟨x.2.1, 7, true, true, [encBox b]⟩)], n := x.2.2 }
def sb2S (a b : Box) (i : Nat) (x : Nat × Nat × Nat) : St := { t := [(2, .c (.ptr 2 x.1 0 0)), (3, .c (.ptr 3 x.2.1 0 0)), (6, .c (I i))], o := [(2, ⟨x.1, 7, true, true, [encBox a]⟩), (3, ⟨x.2.1, 7, true, true, [encBox b]⟩)], n := x.2.2 }
def sb2E (a b : Box) (x : Nat × Nat × Nat) : St := { t := [(2, .c (.ptr 2 x.1 0 0)), (3, .c (.ptr 3 x.2.1 0 0)), (6, .c (I a.gone.length)), (74, .c (.bool false))], o := [(2, ⟨x.1, 7, true, true, [encBox a]⟩), (3, ⟨x.2.1, 7, true, true, [encBox b]⟩)], n := x.2.2 }
theorem loopN_more {f : St → Option (Out × St)} : ∀ {n m : Nat} {s : St} {r : Out × St}, loopN f n s = some r → n ≤ m → loopN f m s = some r
  | 0, m, s, r, h, _ => by simp [loopN] at h
  | n + 1, 0, s, r, h, hm => by omega
  | n + 1, m + 1, s, r, h, hm => by
    simp only [loopN] at h ⊢
    split at h
    · exact loopN_more h (by omega)
    · exact h
theorem spec_l09Box.says (h : spec_l09Box.k M) (a b : Box) (ha : BoxEq a) : run M 116 [.a (encBox a), .a (encBox b)] [] = some (.c (.bool (decide (a = b))), []) := by
  obtain ⟨h0, k1⟩ := h
  refine run_code (b := spec_l09Box.m) h0 ⟨a.mails.length + a.gone.length + 1, ?_⟩
  by_cases c1 : a.gid = b.gid
  rotate_left
  · have hne : ¬ a = b := fun q => c1 (by rw [q])
    simp [exB, spec_l09Box.m, spec_l09Box.b, List.range_succ, c1, hne]
  by_cases c2 : a.name = b.name
  rotate_left
  · have hne : ¬ a = b := fun q => c2 (by rw [q])
    simp [exB, spec_l09Box.m, spec_l09Box.b, List.range_succ, c1, c2, hne]
  by_cases c3 : a.time = b.time
  rotate_left
  · have hne : ¬ a = b := fun q => c3 (by rw [q])
    simp [exB, spec_l09Box.m, spec_l09Box.b, List.range_succ, c1, c2, c3, hne, eqL, eqT]
  by_cases c4 : a.who = b.who
  rotate_left
  · have hne : ¬ a = b := fun q => c4 (by rw [q])
    simp [exB, spec_l09Box.m, spec_l09Box.b, List.range_succ, c1, c2, c3, c4, hne, eqL, eqT]
  by_cases c5 : a.next = b.next
  rotate_left
  · have hne : ¬ a = b := fun q => c5 (by rw [q])
    simp [exB, spec_l09Box.m, spec_l09Box.b, List.range_succ, c1, c2, c3, c4, c5, hne, eqL, eqT]
  by_cases c6 : a.mails.length = b.mails.length
  rotate_left
  · have hne : ¬ a = b := fun q => c6 (by rw [q])
    have c6' : ¬ (a.mails.length : Int) = b.mails.length := by omega
    simp [exB, spec_l09Box.m, spec_l09Box.b, List.range_succ, c1, c2, c3, c4, c5, c6, c6', hne, eqL, eqT]
  by_cases c7 : a.gone.length = b.gone.length
  rotate_left
  · have hne : ¬ a = b := fun q => c7 (by rw [q])
    have c7' : ¬ (a.gone.length : Int) = b.gone.length := by omega
    simp [exB, spec_l09Box.m, spec_l09Box.b, List.range_succ, c1, c2, c3, c4, c5, c6, c7, c7', hne, eqL, eqT]
  obtain ⟨K, hK⟩ : ∃ K, K = a.mails.length + a.gone.length + 1 := ⟨_, rfl⟩
  rw [← hK]
  have hml := ha.m
  have hgl := ha.g
  have hfl := ha.f
  obtain ⟨g, hr⟩ := eq_loop a.mails b.mails c6 (f := exC (run M) K spec_l09Box.l0) (sbS a b) 4 0 (sbE a b)
    (fun i hi hi' x c => by
      obtain ⟨v, w, x⟩ := x
      have e5 := wrap1 (i := i) (by omega)
      have hm := spec_SameMail.says k1 a.mails[i] b.mails[i] (hfl _ (List.getElem_mem hi))
      rw [decide_eq_true c] at hm
      simp only [encMail] at hm
      simp only [Prod.exists]
      simp [sbS, spec_l09Box.l0, hi, hi', e5, encMail, hm])
    (fun i hi hi' x c => by
      obtain ⟨v, w, x⟩ := x
      have hm := spec_SameMail.says k1 a.mails[i] b.mails[i] (hfl _ (List.getElem_mem hi))
      rw [decide_eq_false c] at hm
      simp only [encMail] at hm
      simp [sbS, spec_l09Box.l0, hi, hi', encMail, hm])
    (fun x => by
      obtain ⟨v, w, x⟩ := x
      simp only [Prod.exists]
      simp [sbS, sbE, spec_l09Box.l0])
  have hr' := fun x => loopN_more (hr x) (show a.mails.length + 1 ≤ K by omega)
  by_cases c8 : a.mails = b.mails
  rotate_left
  · have hne : ¬ a = b := fun q => c8 (by rw [q])
    simp only [c8, if_false] at hr'
    simp [sbS, encBox, c1, c2, c3, c4, c5] at hr'
    simp [exB, spec_l09Box.m, spec_l09Box.b, List.range_succ, encBox, c1, c2, c3, c4, c5, c6, c7, hne, eqL, eqT, hr']
  obtain ⟨g2, hr2⟩ := eq_loop a.gone b.gone c7 (f := exC (run M) K spec_l09Box.l1) (sb2S a b) 4 2 (sb2E a b)
    (fun i hi hi' x c => by
      obtain ⟨v, w, x⟩ := x
      have e5 := wrap1 (i := i) (by omega)
      simp only [Prod.exists]
      simp [sb2S, spec_l09Box.l1, hi, hi', e5, c])
    (fun i hi hi' x c => by
      obtain ⟨v, w, x⟩ := x
      simp [sb2S, spec_l09Box.l1, hi, hi', c])
    (fun x => by
      obtain ⟨v, w, x⟩ := x
      simp only [Prod.exists]
      simp [sb2S, sb2E, spec_l09Box.l1])
  have hr2' := fun x => loopN_more (hr2 x) (show a.gone.length + 1 ≤ K by omega)
  simp only [c8, if_true] at hr'
  by_cases c9 : a.gone = b.gone
  · have he : a = b := box_ext c1 c2 c3 c4 c5 c8 c9
    subst he
    simp only [if_true] at hr2'
    simp [sbS, sbE, encBox] at hr'
    simp [sb2S, sb2E, encBox] at hr2'
    simp [exB, spec_l09Box.m, spec_l09Box.b, List.range_succ, encBox, eqL, eqT, hr', hr2']
  · have hne : ¬ a = b := fun q => c9 (by rw [q])
    simp only [c9, if_false] at hr2'
    simp [sbS, sbE, encBox, c1, c2, c3, c4, c5, c8] at hr'
    simp [sb2S, sb2E, encBox, c1, c2, c3, c4, c5, c8] at hr2'
    simp [exB, spec_l09Box.m, spec_l09Box.b, List.range_succ, encBox, c1, c2, c3, c4, c5, c7, c8, hne, eqL, eqT, hr', hr2']
def alike (a b : Store) : Bool := decide (a.boxes = b.boxes) && decide (a.gone = b.gone)
def saS (a b : Store) (i : Nat) (x : Nat × Nat × Nat) : St := { t := [(2, .c (.ptr 2 x.1 0 0)), (3, .c (.ptr 3 x.2.1 0 0)), (5, .c (I i))], o := [(2, ⟨x.1, 4, true, true, [encStore a]⟩), (3, ⟨x.2.1, 4, true, true, [encStore b]⟩)], n := x.2.2 }
def saE (a b : Store) (x : Nat × Nat × Nat) : St := { t := [(2, .c (.ptr 2 x.1 0 0)), (3, .c (.ptr 3 x.2.1 0 0)), (5, .c (I a.boxes.length)), (27, .c (.bool false))], o := [(2, ⟨x.1, 4, true, true, [encStore a]⟩), (3, ⟨x.2.1, 4, true, true, [encStore b]⟩)], n := x.2.2 }
def sa2S (a b : Store) (i : Nat) (x : Nat × Nat × Nat) : St := { t := [(2, .c (.ptr 2 x.1 0 0)), (3, .c (.ptr 3 x.2.1 0 0)), (6, .c (I i))], o := [(2, ⟨x.1, 4, true, true, [encStore a]⟩), (3, ⟨x.2.1, 4, true, true, [encStore b]⟩)], n := x.2.2 }
def sa2E (a b : Store) (x : Nat × Nat × Nat) : St := { t := [(2, .c (.ptr 2 x.1 0 0)), (3, .c (.ptr 3 x.2.1 0 0)), (6, .c (I a.gone.length)), (46, .c (.bool false))], o := [(2, ⟨x.1, 4, true, true, [encStore a]⟩), (3, ⟨x.2.1, 4, true, true, [encStore b]⟩)], n := x.2.2 }
theorem spec_Alike.says (h : spec_Alike.k M) (a b : Store) (ha : StoreEq a) : run M 31 [.a (encStore a), .a (encStore b)] [] = some (.c (.bool (alike a b)), []) := by
  obtain ⟨h0, k1⟩ := h
  refine run_code (b := spec_Alike.m) h0 ⟨a.boxes.length + a.gone.length + 1, ?_⟩
  unfold alike
  by_cases c6 : a.boxes.length = b.boxes.length
  rotate_left
  · have hne : ¬ a.boxes = b.boxes := fun q => c6 (by rw [q])
    have c6' : ¬ (a.boxes.length : Int) = b.boxes.length := by omega
    simp [exB, spec_Alike.m, spec_Alike.b, List.range_succ, c6, c6', hne]
  by_cases c7 : a.gone.length = b.gone.length
  rotate_left
  · have hne : ¬ a.gone = b.gone := fun q => c7 (by rw [q])
    have c7' : ¬ (a.gone.length : Int) = b.gone.length := by omega
    simp [exB, spec_Alike.m, spec_Alike.b, List.range_succ, c6, c7, c7', hne]
  obtain ⟨K, hK⟩ : ∃ K, K = a.boxes.length + a.gone.length + 1 := ⟨_, rfl⟩
  rw [← hK]
  have hbl := ha.b
  have hgl := ha.g
  obtain ⟨g, hr⟩ := eq_loop a.boxes b.boxes c6 (f := exC (run M) K spec_Alike.l0) (saS a b) 4 0 (saE a b)
    (fun i hi hi' x c => by
      obtain ⟨v, w, x⟩ := x
      have e5 := wrap1 (i := i) (by omega)
      have hm := spec_l09Box.says k1 a.boxes[i] b.boxes[i] (ha.box _ (List.getElem_mem hi))
      rw [decide_eq_true c] at hm
      simp only [encBox] at hm
      simp only [Prod.exists]
      simp [saS, spec_Alike.l0, hi, hi', e5, encBox, hm])
    (fun i hi hi' x c => by
      obtain ⟨v, w, x⟩ := x
      have hm := spec_l09Box.says k1 a.boxes[i] b.boxes[i] (ha.box _ (List.getElem_mem hi))
      rw [decide_eq_false c] at hm
      simp only [encBox] at hm
      simp [saS, spec_Alike.l0, hi, hi', encBox, hm])
    (fun x => by
      obtain ⟨v, w, x⟩ := x
      simp only [Prod.exists]
      simp [saS, saE, spec_Alike.l0])
  have hr' := fun x => loopN_more (hr x) (show a.boxes.length + 1 ≤ K by omega)
  by_cases c8 : a.boxes = b.boxes
  rotate_left
  · simp only [c8, if_false] at hr'
    simp [saS, encStore] at hr'
    simp [exB, spec_Alike.m, spec_Alike.b, List.range_succ, encStore, c6, c7, c8, hr']
  obtain ⟨g2, hr2⟩ := eq_loop a.gone b.gone c7 (f := exC (run M) K spec_Alike.l1) (sa2S a b) 4 2 (sa2E a b)
    (fun i hi hi' x c => by
      obtain ⟨v, w, x⟩ := x
      have e5 := wrap1 (i := i) (by omega)
      simp only [Prod.exists]
      simp [sa2S, spec_Alike.l1, hi, hi', e5, c])
    (fun i hi hi' x c => by
      obtain ⟨v, w, x⟩ := x
      simp [sa2S, spec_Alike.l1, hi, hi', c])
    (fun x => by
      obtain ⟨v, w, x⟩ := x
      simp only [Prod.exists]
      simp [sa2S, sa2E, spec_Alike.l1])
  have hr2' := fun x => loopN_more (hr2 x) (show a.gone.length + 1 ≤ K by omega)
  simp only [c8, if_true] at hr'
  by_cases c9 : a.gone = b.gone
  · simp only [c9, if_true] at hr2'
    simp [saS, saE, encStore, c8, c9] at hr'
    simp [sa2S, sa2E, encStore, c8, c9] at hr2'
    simp [exB, spec_Alike.m, spec_Alike.b, List.range_succ, encStore, c8, c9, hr', hr2']
  · simp only [c9, if_false] at hr2'
    simp [saS, saE, encStore, c8] at hr'
    simp [sa2S, sa2E, encStore, c8] at hr2'
    simp [exB, spec_Alike.m, spec_Alike.b, List.range_succ, encStore, c7, c8, c9, hr', hr2']
end Mx

namespace Mx
open Go
variable {M : Nat → Option Body}
structure LtS where
  i : Nat
  l : List UInt8
  v : Nat
  ic : Nat
  q : Int
  n : Nat
def ltO (R : List (List T)) (s : LtS) : List (Nat × Ob) := [curD R s.ic s.q, (9, ⟨s.v, 1, true, false, brow s.l⟩)]
def ltxS (R : List (List T)) (m : Nat) (s : LtS) : St := { t := [(0, .c (.ptr 0 0 0 0)), (1, .c (I m)), (5, .c (.row 9 s.v 0 s.l.length)), (6, .c (I s.i))], o := ltO R s, n := s.n }
def ltxE (R : List (List T)) (m : Nat) (s : LtS) : St := { t := [(0, .c (.ptr 0 0 0 0)), (1, .c (I m)), (5, .c (.row 9 s.v 0 s.l.length)), (6, .c (I s.i)), (12, .c (.bool false))], o := ltO R s, n := s.n }
theorem lt_turn (kb : spec_l01Byte.k M) {R : List (List T)} (hR : Bytes R) (k m : Nat) (s : LtS) (hm : m ≤ 5000) (hi : s.i < m) (hl : s.l.length = s.i) (hc : s.ic ≤ R.length) :
    ∃ s', exC (run M) k spec_l01Text.l0 (ltxS R m s) = some (.normal, ltxS R m s') ∧ s'.i = s.i + 1 ∧ s'.l.length = s'.i ∧ s'.ic ≤ R.length := by
  obtain ⟨i, l, v, ic, q, n⟩ := s
  simp only at hi hl hc
  obtain ⟨x, ic1, q1, hx, hc1, h1⟩ := spec_l01Byte.says kb hR ic q hc
  have hi' : (i : Int) < m := by omega
  have e5 := wrap1 (i := i) (by omega)
  have e6 : IntKind.u8.wrap (x : Int) = (x : Int) := by unfold IntKind.wrap; simp [IntKind.bits, IntKind.signed]; omega
  have hb : brow (l ++ [UInt8.ofNat x]) = brow l ++ [[.int .u8 (x : Int)]] := by
    have : (UInt8.ofNat x).toNat = x := by rw [UInt8.toNat_ofNat']; omega
    simp [brow, this]
  have hbl := brow_len l
  have h2 : l.length + 1 ≤ 4294967296 := by omega
  suffices hh : ∃ v' n', exC (run M) k spec_l01Text.l0 (ltxS R m ⟨i, l, v, ic, q, n⟩) = some (.normal, ltxS R m ⟨i + 1, l ++ [UInt8.ofNat x], v', ic1, q1, n'⟩) by
    obtain ⟨v', n', hh⟩ := hh
    exact ⟨_, hh, rfl, by simp [hl], hc1⟩
  simp only [ltxS, ltO, hb, List.length_append, List.length_cons, List.length_nil]
  generalize brow l = rl at *
  simp (maxSteps := 1000000) [spec_l01Text.l0, List.range_succ, bs_get, setAt, h1, hi, hi', e5, e6, hbl, h2, List.take_of_length_le]
theorem lt_end {R : List (List T)} (k m : Nat) (s : LtS) (hi : ¬ s.i < m) : ∃ n', exC (run M) k spec_l01Text.l0 (ltxS R m s) = some (.exit 0, ltxE R m { s with n := n' }) := by
  obtain ⟨i, l, v, ic, q, n⟩ := s
  simp only at hi
  have hi' : ¬ (i : Int) < m := by omega
  simp only [ltxS, ltxE, ltO]
  generalize brow l = rl at *
  simp (maxSteps := 1000000) [spec_l01Text.l0, List.range_succ, bs_get, setAt, hi, hi']
theorem spec_l01Text.says (h : spec_l01Text.k M) {R : List (List T)} (hR : Bytes R) (i : Nat) (q : Int) (hi : i ≤ R.length) (m : Nat) (hm : m ≤ 5000) :
    ∃ (s : List UInt8) (i' : Nat) (q' : Int), s.length = m ∧ i' ≤ R.length ∧ run M 465 [.c (.ptr 0 0 0 0), .c (I m)] [curD R i q] = some (.c (S s), [curD R i' q']) := by
  obtain ⟨h0, kb⟩ := h
  obtain ⟨r, hr, ⟨⟨i1, l, v, ic, q1, n⟩, rfl, hl, hc⟩⟩ := loop_ex (f := exC (run M) (m + 1) spec_l01Text.l0) (ltxS R m) (fun s => s.i ≤ m ∧ s.l.length = s.i ∧ s.ic ≤ R.length) (fun s => m - s.i) (fun r => ∃ s, r = (.exit 0, ltxE R m s) ∧ s.l.length = m ∧ s.ic ≤ R.length)
    (fun s hs => by
      obtain ⟨h1, h2, h3⟩ := hs
      by_cases c : s.i < m
      · left
        obtain ⟨s', k1, k2, k3, k4⟩ := lt_turn kb hR (m + 1) m s hm c h2 h3
        exact ⟨s', k1, ⟨by omega, k3, k4⟩, by omega⟩
      · right
        obtain ⟨n', k1⟩ := lt_end (M := M) (R := R) (m + 1) m s c
        exact ⟨_, k1, by simp, _, rfl, by simp only; omega, h3⟩) (m + 1) ⟨0, [], 2000048, i, q, 2000096⟩ ⟨by simp, rfl, hi⟩ (by simp)
  simp only at hl hc
  refine ⟨l, ic, q1, hl, hc, run_code (b := spec_l01Text.m) h0 ⟨m + 1, ?_⟩⟩
  have e0 : ((0 : Nat) : Int) = 0 := rfl
  have eb : brow [] = [] := rfl
  have c1 : ¬ (5000 : Int) < m := by omega
  have c2 : ¬ 5000 < m := by omega
  have c6 : rowsBytes (brow l) = some l := brow_bytes l
  have hbl := brow_len l
  simp only [ltxS, ltxE, ltO, e0, eb, List.length_nil] at hr
  generalize brow l = rl at *
  simp (maxSteps := 1000000) [exB, spec_l01Text.m, spec_l01Text.b, List.range_succ, bs_get, setAt, hr, c1, c2, c6, hbl, List.take_of_length_le]
set_option maxHeartbeats 1000000 in
theorem spec_l02Spoilt.says (h : spec_l02Spoilt.k M) {R : List (List T)} (hR : Bytes R) (i : Nat) (q : Int) (hi : i ≤ R.length) (s : List UInt8) (hs : s.length ≤ 1000000) :
    ∃ (t : List UInt8) (i' : Nat) (q' : Int), t.length ≤ s.length + 1 ∧ i' ≤ R.length ∧ run M 444 [.c (.ptr 0 0 0 0), .c (S s)] [curD R i q] = some (.c (S t), [curD R i' q']) := by
  obtain ⟨h0, kb, kt⟩ := h
  obtain ⟨x, i1, q1, hx, hc1, h1⟩ := spec_l01Below.says kb hR i q hi 12 (by omega) (by omega)
  simp only [Int.cast_ofNat_Int] at h1
  by_cases c0 : x = 0
  · subst c0
    obtain ⟨t, i2, q2, ht, hc2, h2⟩ := spec_l01Text.says kt hR i1 q1 hc1 1 (by omega)
    have e0 : ((0 : Nat) : Int) = 0 := rfl
    have e1 : ((1 : Nat) : Int) = 1 := rfl
    simp only [e0] at h1
    simp only [e1] at h2
    refine ⟨s ++ t, i2, q2, by simp; omega, hc2, run_code (b := spec_l02Spoilt.m) h0 ⟨0, ?_⟩⟩
    simp (maxSteps := 1000000) (disch := (first | omega | (simp; done) | (simp; omega))) [exB, spec_l02Spoilt.m, spec_l02Spoilt.b, List.range_succ, bs_get, List.take_of_length_le, setAt, str_add, h1, h2]
  have d0 : ¬ (x : Int) = 0 := by omega
  by_cases c1 : x = 1
  · subst c1
    obtain ⟨y, i2, q2, hy, hc2, h2⟩ := spec_l01Below.says kb hR i1 q1 hc1 (s.length + 1) (by omega) (by omega)
    have e1 : ((1 : Nat) : Int) = 1 := rfl
    have e2 : ((s.length + 1 : Nat) : Int) = (s.length : Int) + 1 := by omega
    have e5 := wrap1 (i := s.length) (by omega)
    simp only [e1] at h1
    rw [e2] at h2
    have hy' : y ≤ s.length := by omega
    refine ⟨s.take y, i2, q2, by simp; omega, hc2, run_code (b := spec_l02Spoilt.m) h0 ⟨0, ?_⟩⟩
    simp (maxSteps := 1000000) (disch := (first | omega | (simp; done) | (simp; omega))) [exB, spec_l02Spoilt.m, spec_l02Spoilt.b, List.range_succ, bs_get, List.take_of_length_le, setAt, str_add, h1, h2, e5, hy']
  have d1 : ¬ (x : Int) = 1 := by omega
  by_cases c2 : (x = 2 ∨ x = 3) ∧ s ≠ []
  · obtain ⟨c2, hne⟩ := c2
    have hl : 0 < s.length := List.length_pos_iff.2 hne
    obtain ⟨y, i2, q2, hy, hc2, h2⟩ := spec_l01Below.says kb hR i1 q1 hc1 s.length hl (by omega)
    obtain ⟨t, i3, q3, ht, hc3, h3⟩ := spec_l01Text.says kt hR i2 q2 hc2 1 (by omega)
    have e1 : ((1 : Nat) : Int) = 1 := rfl
    simp only [e1] at h3
    have e5 := wrap1 (i := y) (by omega)
    have hy1 : y ≤ s.length := by omega
    have hy2 : y + 1 ≤ s.length := by omega
    have e6 : ((y : Int) + 1).toNat = y + 1 := by omega
    have e7 : (0 : Int) ≤ (y : Int) + 1 := by omega
    obtain ⟨A, gA⟩ : ∃ A, s.take y = A := ⟨_, rfl⟩
    obtain ⟨B, gB⟩ : ∃ B, s.drop (y + 1) = B := ⟨_, rfl⟩
    have lA : A.length = y := by rw [← gA]; simp; omega
    have lB : B.length = s.length - (y + 1) := by rw [← gB]; simp
    have k1 : A.length + t.length ≤ 4611686018427387904 := by omega
    have k2 : A.length + t.length + B.length ≤ 4611686018427387904 := by omega
    have k3 : A.length + (t.length + B.length) ≤ 4611686018427387904 := by omega
    have lt : (A ++ t ++ B).length ≤ s.length + 1 := by simp; omega
    refine ⟨A ++ t ++ B, i3, q3, lt, hc3, run_code (b := spec_l02Spoilt.m) h0 ⟨0, ?_⟩⟩
    clear lt lA lB ht hR
    rcases c2 with rfl | rfl
    · have e2 : ((2 : Nat) : Int) = 2 := rfl
      simp only [e2] at h1
      simp (maxSteps := 1000000) [exB, spec_l02Spoilt.m, spec_l02Spoilt.b, List.range_succ, bs_get, setAt, h1, h2, h3, hl, e5, e6, e7, hy1, hy2, gA, gB, k1, k2, k3]
    · have e2 : ((3 : Nat) : Int) = 3 := rfl
      simp only [e2] at h1
      simp (maxSteps := 1000000) [exB, spec_l02Spoilt.m, spec_l02Spoilt.b, List.range_succ, bs_get, setAt, h1, h2, h3, hl, e5, e6, e7, hy1, hy2, gA, gB, k1, k2, k3]
  refine ⟨s, i1, q1, by omega, hc1, run_code (b := spec_l02Spoilt.m) h0 ⟨0, ?_⟩⟩
  by_cases c3 : x = 2 ∨ x = 3
  · have hne : s = [] := by
      rcases Classical.em (s = []) with z | z
      · exact z
      · exact (c2 ⟨c3, z⟩).elim
    subst hne
    rcases c3 with rfl | rfl
    · have e2 : ((2 : Nat) : Int) = 2 := rfl
      simp only [e2] at h1
      simp (maxSteps := 1000000) (disch := (first | omega | (simp; done) | (simp; omega))) [exB, spec_l02Spoilt.m, spec_l02Spoilt.b, List.range_succ, bs_get, List.take_of_length_le, setAt, str_add, h1]
    · have e2 : ((3 : Nat) : Int) = 3 := rfl
      simp only [e2] at h1
      simp (maxSteps := 1000000) (disch := (first | omega | (simp; done) | (simp; omega))) [exB, spec_l02Spoilt.m, spec_l02Spoilt.b, List.range_succ, bs_get, List.take_of_length_le, setAt, str_add, h1]
  · have d2 : ¬ (x : Int) = 2 := by omega
    have d3 : ¬ (x : Int) = 3 := by omega
    have k2 : ¬ x = 2 := by omega
    have k3 : ¬ x = 3 := by omega
    simp (maxSteps := 1000000) (disch := (first | omega | (simp; done) | (simp; omega))) [exB, spec_l02Spoilt.m, spec_l02Spoilt.b, List.range_succ, bs_get, List.take_of_length_le, setAt, str_add, h1, c0, d0, c1, d1, d2, d3, k2, k3]
def sameAll (a b : Store) : Bool := decide (a.who = b.who) && decide (a.time = b.time) && alike a b
theorem laws_sameAll.says (h : laws_sameAll.k M) (a b : Store) (ha : StoreEq a) : run M 421 [.a (encStore a), .a (encStore b)] [] = some (.c (.bool (sameAll a b)), []) := by
  obtain ⟨h0, ka⟩ := h
  have h1 := spec_Alike.says ka a b ha
  refine run_code (b := laws_sameAll.m) h0 ⟨0, ?_⟩
  unfold sameAll
  generalize alike a b = z at *
  simp only [encStore, boxes, ints] at h1 ⊢
  generalize a.boxes.map encBox = ra at *
  generalize irow a.gone = ga at *
  generalize b.boxes.map encBox = rb at *
  generalize irow b.gone = gb at *
  by_cases c1 : a.who = b.who
  · by_cases c2 : a.time = b.time
    · simp only [c1, c2] at h1
      simp (maxSteps := 1000000) [exB, laws_sameAll.m, laws_sameAll.b, List.range_succ, bs_get, setAt, h1, c1, c2]
    · simp (maxSteps := 1000000) [exB, laws_sameAll.m, laws_sameAll.b, List.range_succ, bs_get, setAt, h1, c1, c2]
  · simp (maxSteps := 1000000) [exB, laws_sameAll.m, laws_sameAll.b, List.range_succ, bs_get, setAt, h1, c1]
end Mx

namespace Mx
open Go
variable {M : Nat → Option Body}
def cboxH (l : List UInt8) (c : Cur) : Box × Cur :=
  let g := cvar l c
  let nm := cshort l g.2
  let st := cstamp l nm.2
  let nx := cvar l st.2
  (⟨g.1, nm.1, st.1.1, st.1.2, nx.1, [], []⟩, nx.2)
/-- what a box's text says, right or not -/
def cbox (l : List UInt8) (c : Cur) : Box × Cur :=
  let h := cboxH l c
  let k := cmany l 10 h.2
  let ms := crep (cmail l) k.1.toNat k.2
  let go := cnums l 40 ms.2
  ({ h.1 with mails := ms.1, gone := go.1 }, go.2)
def bxO (b : Box) (i : Nat) (acc : List Mail) (x : Four) : List (Nat × Ob) := [(2, ⟨x.a, 7, true, true, [bzero]⟩), (3, ⟨x.b, 7, true, true, [[I b.gid, S b.name, I b.time, I b.who, I b.next, if i = 0 then .nils 4 else .row 29 x.c 0 i, .nils 1]]⟩)] ++ if i = 0 then [] else [(29, ⟨x.c, 4, true, false, acc.map encMail⟩)]
def bxcS (l : List UInt8) (b : Box) (n i : Nat) (acc : List Mail) (c : Cur) (x : Four) : St := { t := [(0, .c curP), (2, .c (.ptr 2 x.a 0 0)), (3, .c (.ptr 3 x.b 0 0)), (20, .c (I n)), (21, .c (I i))], o := (0, curO 0 l c) :: bxO b i acc x, n := x.d }
def bxcE (l : List UInt8) (b : Box) (n : Nat) (acc : List Mail) (c : Cur) (x : Four) : St := { t := [(0, .c curP), (2, .c (.ptr 2 x.a 0 0)), (3, .c (.ptr 3 x.b 0 0)), (20, .c (I n)), (21, .c (I n)), (22, .c (.bool false))], o := (0, curO 0 l c) :: bxO b n acc x, n := x.d }
theorem impl_scan_box.says (h : impl_scan_box.k M) (l : List UInt8) (hl : l.length ≤ 4611686018427387904) (c : Cur) :
    run M 143 [.c curP] [(0, curO 0 l c)] = some (.a (encBoxO (cbox l c).1), [(0, curO 0 l (cbox l c).2)]) := by
  obtain ⟨h0, k1, k2, k3, k4, k5, k6⟩ := h
  have h1 := impl_scan_num.says k1 l hl c
  have h2 := impl_scan_short.says k2 l hl (cvar l c).2
  have h3 := impl_scan_stamp.says k5 l hl (cshort l (cvar l c).2).2
  have h4 := impl_scan_num.says k1 l hl (cstamp l (cshort l (cvar l c).2).2).2
  simp only [cbox]
  have e0 : cboxH l c = (⟨(cvar l c).1, (cshort l (cvar l c).2).1, (cstamp l (cshort l (cvar l c).2).2).1.1, (cstamp l (cshort l (cvar l c).2).2).1.2, (cvar l (cstamp l (cshort l (cvar l c).2).2).2).1, [], []⟩, (cvar l (cstamp l (cshort l (cvar l c).2).2).2).2) := rfl
  rw [e0]
  generalize cvar l c = q1 at *
  generalize cshort l q1.2 = q2 at *
  generalize cstamp l q2.2 = q3 at *
  generalize cvar l q3.2 = q4 at *
  have h5 := impl_scan_many.says k3 l hl 10 q4.2
  have hn := cmany_nn l 10 q4.2
  simp only
  generalize cmany l 10 q4.2 = q5 at *
  obtain ⟨n, c1⟩ := q5
  simp only at hn ⊢
  obtain ⟨n, rfl⟩ := Int.eq_ofNat_of_zero_le hn.1
  simp only [Int.toNat_natCast]
  refine run_code (b := impl_scan_box.m) h0 ⟨n + 1, ?_⟩
  obtain ⟨g, hr⟩ := rep_loop (f := exC (run M) (n + 1) impl_scan_box.l0) n (cmail l) (bxcS l ⟨q1.1, q2.1, q3.1.1, q3.1.2, q4.1, [], []⟩ n) 0 (bxcE l ⟨q1.1, q2.1, q3.1.1, q3.1.2, q4.1, [], []⟩ n)
    (fun i hi acc c x ha => by
      obtain ⟨v, w, z, x⟩ := x
      have h2 := impl_scan_mail.says k6 l hl c
      simp only [Four.ex]
      cases i with
      | zero =>
        have : acc = [] := List.eq_nil_of_length_eq_zero ha
        subst this
        simp (maxSteps := 1000000) [impl_scan_box.l0, List.range_succ, bs_get, setAt, bxcS, bxO, hi, h2, wrap_one, encMailO, encMail]
      | succ i =>
        have e5 : IntKind.i64.wrap ((i : Int) + 1 + 1) = (i : Int) + 1 + 1 := wrap_i64 (by omega) (by omega)
        have e6 : i + 1 + 1 ≤ 4294967296 := by omega
        have e7 : (i : Int) + 1 < n := by omega
        simp (maxSteps := 1000000) [impl_scan_box.l0, List.range_succ, bs_get, setAt, bxcS, bxO, e7, h2, e5, e6, ha, encMailO, encMail, List.take_of_length_le])
    (fun acc c x ha => by
      obtain ⟨v, w, z, x⟩ := x
      simp only [Four.ex]
      by_cases hz : n = 0
      · subst hz
        simp (maxSteps := 1000000) [impl_scan_box.l0, List.range_succ, bs_get, setAt, bxcS, bxcE, bxO]
      · simp (maxSteps := 1000000) [impl_scan_box.l0, List.range_succ, bs_get, setAt, bxcS, bxcE, bxO, hz]) c1
  have hlen := crep_len (cmail l) n c1
  have h6 := impl_scan_nums.says k4 l hl 40 (crep (cmail l) n c1).2
  generalize crep (cmail l) n c1 = q at *
  generalize cnums l 40 q.2 = q6 at *
  replace hr := fun a b d => hr ⟨a, b, 0, d⟩
  by_cases hz : n = 0
  · subst hz
    have hq : q.1 = [] := List.eq_nil_of_length_eq_zero hlen
    simp [bxcS, bxcE, bxO] at hr
    simp (maxSteps := 1000000) [exB, impl_scan_box.m, impl_scan_box.b, List.range_succ, bs_get, setAt, h1, h2, h3, h4, h5, h6, hr, hlen, hq, List.take_of_length_le]
  · simp [bxcS, bxcE, bxO, hz] at hr
    simp (maxSteps := 1000000) [exB, impl_scan_box.m, impl_scan_box.b, List.range_succ, bs_get, setAt, h1, h2, h3, h4, h5, h6, hr, hlen, List.take_of_length_le]
end Mx

namespace Mx
open Go
variable {M : Nat → Option Body}
abbrev U32 (n : Int) : T := .int .u32 n
/-- one bit more -/
def half (x : Int) : Int := if x % 2 = 1 then xorI .u32 (x / 2) 3558460437 else x / 2
def halfN : Nat → Int → Int
  | 0, x => x
  | n + 1, x => halfN n (half x)
def sumByte (x : Int) (b : UInt8) : Int := halfN 8 (xorI .u32 x b.toNat)
def sumMore (x : Int) (l : List UInt8) : Int := l.foldl sumByte x
def sumOf (l : List UInt8) : Int := sumMore 4294967295 l
def in32 (x : Int) : Prop := 0 ≤ x ∧ x < 4294967296
theorem xor_in (x y : Int) : in32 (xorI .u32 x y) := by
  unfold xorI in32; rw [wrap_u32]; omega
theorem half_in {x : Int} (h : in32 x) : in32 (half x) := by
  unfold half; split
  · exact xor_in _ _
  · unfold in32 at *; omega
theorem halfN_in : ∀ (n : Nat) {x : Int}, in32 x → in32 (halfN n x)
  | 0, _, h => h
  | n + 1, _, h => halfN_in n (half_in h)
theorem sumMore_in : ∀ (l : List UInt8) {x : Int}, in32 x → in32 (sumMore x l)
  | [], _, h => h
  | b :: l, x, h => by
    show in32 (sumMore (sumByte x b) l)
    exact sumMore_in l (halfN_in 8 (xor_in _ _))
theorem sumOf_in (l : List UInt8) : in32 (sumOf l) := sumMore_in l ⟨by decide, by decide⟩
def spH (l : List UInt8) (j : Nat) (s : Nat × Int) (x : Nat) : St := { t := [(0, .c (U32 s.2)), (1, .c (S l)), (5, .c (I j)), (6, .c (I s.1))], o := [], n := x }
theorem tmod2 {x : Int} (h : 0 ≤ x) : x.tmod 2 = x % 2 := Int.tmod_eq_emod_of_nonneg h
theorem tdiv2 {x : Int} (h : 0 ≤ x) : x.tdiv 2 = x / 2 := Int.tdiv_eq_ediv_of_nonneg h
theorem spec_SumMore.inner (cf : CallF) (k : Nat) (l : List UInt8) (j : Nat) (x0 : Int) (h0 : in32 x0) : ∀ m, 8 < m → ∃ g : Nat → Nat, ∀ x, loopN (exC cf k spec_SumMore.l1) m (spH l j (0, x0) x) =
    some (.exit 2, { t := [(0, .c (U32 (halfN 8 x0))), (1, .c (S l)), (5, .c (I j)), (6, .c (I 8)), (21, .c (.bool false))], o := [], n := g x }) := by
  intro m hm
  exact loop_all (f := exC cf k spec_SumMore.l1) (spH l j) (fun s => s.1 ≤ 8 ∧ in32 s.2) (fun s => 8 - s.1) (fun s => halfN (8 - s.1) s.2)
    (fun q m => (.exit 2, { t := [(0, .c (U32 q)), (1, .c (S l)), (5, .c (I j)), (6, .c (I 8)), (21, .c (.bool false))], o := [], n := m }))
    (by
      rintro ⟨i, y⟩ x ⟨h1, h2⟩
      simp only at h1 h2
      by_cases hlt : i < 8
      · have e5 := wrap1 (i := i) (by omega)
        have e0 : (i : Int) < 8 := by omega
        have e1 := tmod2 h2.1
        have e2 := tdiv2 h2.1
        have e3 : IntKind.u32.wrap (y / 2) = y / 2 := by rw [wrap_u32]; have := h2.2; have := h2.1; omega
        have hd : 8 - i = (8 - (i + 1)) + 1 := by omega
        left
        obtain ⟨z, hz⟩ : ∃ z, exC cf k spec_SumMore.l1 (spH l j (i, y) x) = some (.normal, spH l j (i + 1, half y) z) := by
          by_cases c : y % 2 = 1
          · simp [spH, spec_SumMore.l1, e0, e5, e1, e2, e3, c, half]
          · simp [spH, spec_SumMore.l1, e0, e5, e1, e2, e3, c, half]
        exact ⟨(i + 1, half y), z, hz, ⟨hlt, half_in h2⟩, by simp only; omega, by simp only [hd]; rfl⟩
      · have : i = 8 := by omega
        subst this
        exact .inr ⟨x + 32, by simp [spH, spec_SumMore.l1, halfN], by simp⟩)
    m (0, x0) ⟨by simp, h0⟩ (by simp; omega)
theorem and1 {x : Int} (h : in32 x) : andI .u32 x 1 = x % 2 := by
  obtain ⟨n, rfl⟩ := Int.eq_ofNat_of_zero_le h.1
  have h2 : n < 4294967296 := by have := h.2; omega
  rw [andI_eq, wrap_u32]
  have e1 : ((n : Int) % ((2 ^ IntKind.u32.bits : Nat) : Int)).toNat = n := by
    show ((n : Int) % 4294967296).toNat = n
    omega
  have e2 : ((1 : Int) % ((2 ^ IntKind.u32.bits : Nat) : Int)).toNat = 1 := by decide
  rw [e1, e2, Nat.and_one_is_mod]; omega
def imH (l : List UInt8) (j : Nat) (s : Nat × Int) (x : Nat) : St := { t := [(0, .c (U32 s.2)), (1, .c (S l)), (5, .c (I j)), (19, .c (I s.1))], o := [], n := x }
theorem impl_SumMore.inner (cf : CallF) (k : Nat) (l : List UInt8) (j : Nat) (x0 : Int) (h0 : in32 x0) : ∀ m, 8 < m → ∃ g : Nat → Nat, ∀ x, loopN (exC cf k impl_SumMore.l1) m (imH l j (0, x0) x) =
    some (.exit 2, { t := [(0, .c (U32 (halfN 8 x0))), (1, .c (S l)), (5, .c (I j)), (19, .c (I 8)), (20, .c (.bool false))], o := [], n := g x }) := by
  intro m hm
  exact loop_all (f := exC cf k impl_SumMore.l1) (imH l j) (fun s => s.1 ≤ 8 ∧ in32 s.2) (fun s => 8 - s.1) (fun s => halfN (8 - s.1) s.2)
    (fun q m => (.exit 2, { t := [(0, .c (U32 q)), (1, .c (S l)), (5, .c (I j)), (19, .c (I 8)), (20, .c (.bool false))], o := [], n := m }))
    (by
      rintro ⟨i, y⟩ x ⟨h1, h2⟩
      simp only at h1 h2
      by_cases hlt : i < 8
      · have e5 := wrap1 (i := i) (by omega)
        have e0 : (i : Int) < 8 := by omega
        have e1 := and1 h2
        have e2 : y.fdiv 2 = y / 2 := Int.fdiv_eq_ediv_of_nonneg _ (by omega)
        have hd : 8 - i = (8 - (i + 1)) + 1 := by omega
        left
        obtain ⟨z, hz⟩ : ∃ z, exC cf k impl_SumMore.l1 (imH l j (i, y) x) = some (.normal, imH l j (i + 1, half y) z) := by
          by_cases c : y % 2 = 1
          · simp [imH, impl_SumMore.l1, e0, e5, e1, e2, c, half, IntKind.bits]
          · simp [imH, impl_SumMore.l1, e0, e5, e1, e2, c, half, IntKind.bits]
        exact ⟨(i + 1, half y), z, hz, ⟨hlt, half_in h2⟩, by simp only; omega, by simp only [hd]; rfl⟩
      · have : i = 8 := by omega
        subst this
        exact .inr ⟨x + 16, by simp [imH, impl_SumMore.l1, halfN], by simp⟩)
    m (0, x0) ⟨by simp, h0⟩ (by simp; omega)
theorem u8_u32 (b : UInt8) : IntKind.u32.wrap (b.toNat : Int) = b.toNat := by
  rw [wrap_u32]; have := b.toNat_lt; omega
def spSum (l : List UInt8) (s : Nat × Int) (x : Nat) : St := { t := [(0, .c (U32 s.2)), (1, .c (S l)), (5, .c (I s.1))], o := [], n := x }
theorem spec_SumMore.says (h : spec_SumMore.k M) (l : List UInt8) (hl : l.length ≤ 4611686018427387904) (x0 : Int) (h0 : in32 x0) : run M 248 [.c (U32 x0), .c (S l)] [] = some (.c (U32 (sumMore x0 l)), []) := by
  refine run_code (b := spec_SumMore.m) h ⟨l.length + 9, ?_⟩
  obtain ⟨g, hr⟩ := loop_all (f := exC (run M) (l.length + 9) spec_SumMore.l0) (spSum l) (fun s => s.1 ≤ l.length ∧ in32 s.2) (fun s => l.length - s.1) (fun s => sumMore s.2 (l.drop s.1))
    (fun q m => (.exit 0, { t := [(0, .c (U32 q)), (1, .c (S l)), (5, .c (I l.length)), (11, .c (.bool false))], o := [], n := m }))
    (by
      rintro ⟨i, y⟩ x ⟨h1, h2⟩
      simp only at h1 h2
      by_cases hlt : i < l.length
      · have e5 := wrap1 (i := i) (by omega)
        have e6 := u8_u32 l[i]
        obtain ⟨g1, hg⟩ := spec_SumMore.inner (run M) (l.length + 9) l i (xorI .u32 y l[i].toNat) (xor_in _ _) (l.length + 9) (by omega)
        simp [spH] at hg
        left
        obtain ⟨z, hz⟩ : ∃ z, exC (run M) (l.length + 9) spec_SumMore.l0 (spSum l (i, y) x) = some (.normal, spSum l (i + 1, sumByte y l[i]) z) := by
          simp [spSum, spec_SumMore.l0, hlt, bs_get, e5, e6, hg, sumByte]
        refine ⟨(i + 1, sumByte y l[i]), z, hz, ⟨hlt, halfN_in 8 (xor_in _ _)⟩, by simp only; omega, ?_⟩
        simp only [List.drop_eq_getElem_cons hlt]; rfl
      · have : i = l.length := by omega
        subst this
        exact .inr ⟨x + 64, by simp [spSum, spec_SumMore.l0, sumMore], by simp⟩)
    (l.length + 9) (0, x0) ⟨Nat.zero_le _, h0⟩ (by simp)
  simp [spSum] at hr
  simp [exB, spec_SumMore.m, spec_SumMore.b, List.range_succ, hr]
theorem impl_SumMore.says (h : impl_SumMore.k M) (l : List UInt8) (hl : l.length ≤ 4611686018427387904) (x0 : Int) (h0 : in32 x0) : run M 249 [.c (U32 x0), .c (S l)] [] = some (.c (U32 (sumMore x0 l)), []) := by
  refine run_code (b := impl_SumMore.m) h ⟨l.length + 9, ?_⟩
  obtain ⟨g, hr⟩ := loop_all (f := exC (run M) (l.length + 9) impl_SumMore.l0) (spSum l) (fun s => s.1 ≤ l.length ∧ in32 s.2) (fun s => l.length - s.1) (fun s => sumMore s.2 (l.drop s.1))
    (fun q m => (.exit 0, { t := [(0, .c (U32 q)), (1, .c (S l)), (5, .c (I l.length)), (10, .c (.bool false))], o := [], n := m }))
    (by
      rintro ⟨i, y⟩ x ⟨h1, h2⟩
      simp only at h1 h2
      by_cases hlt : i < l.length
      · have e5 := wrap1 (i := i) (by omega)
        have e6 := u8_u32 l[i]
        obtain ⟨g1, hg⟩ := impl_SumMore.inner (run M) (l.length + 9) l i (xorI .u32 y l[i].toNat) (xor_in _ _) (l.length + 9) (by omega)
        simp [imH] at hg
        left
        obtain ⟨z, hz⟩ : ∃ z, exC (run M) (l.length + 9) impl_SumMore.l0 (spSum l (i, y) x) = some (.normal, spSum l (i + 1, sumByte y l[i]) z) := by
          simp [spSum, impl_SumMore.l0, hlt, bs_get, e5, e6, hg, sumByte]
        refine ⟨(i + 1, sumByte y l[i]), z, hz, ⟨hlt, halfN_in 8 (xor_in _ _)⟩, by simp only; omega, ?_⟩
        simp only [List.drop_eq_getElem_cons hlt]; rfl
      · have : i = l.length := by omega
        subst this
        exact .inr ⟨x + 64, by simp [spSum, impl_SumMore.l0, sumMore], by simp⟩)
    (l.length + 9) (0, x0) ⟨Nat.zero_le _, h0⟩ (by simp)
  simp [spSum] at hr
  simp [exB, impl_SumMore.m, impl_SumMore.b, List.range_succ, hr]
theorem spec_SumOf.says (h : spec_SumOf.k M) (l : List UInt8) (hl : l.length ≤ 4611686018427387904) : run M 201 [.c (S l)] [] = some (.c (U32 (sumOf l)), []) := by
  have h1 := spec_SumMore.says h.2 l hl 4294967295 ⟨by decide, by decide⟩
  refine run_code (b := spec_SumOf.m) h.1 ⟨0, ?_⟩
  simp [exB, spec_SumOf.m, spec_SumOf.b, List.range_succ, h1, sumOf]
theorem impl_SumOf.says (h : impl_SumOf.k M) (l : List UInt8) (hl : l.length ≤ 4611686018427387904) : run M 203 [.c (S l)] [] = some (.c (U32 (sumOf l)), []) := by
  have h1 := impl_SumMore.says h.2 l hl 4294967295 ⟨by decide, by decide⟩
  refine run_code (b := impl_SumOf.m) h.1 ⟨0, ?_⟩
  simp [exB, impl_SumOf.m, impl_SumOf.b, List.range_succ, h1, sumOf]
def byteOf (x : Int) : UInt8 := UInt8.ofNat (x % 256).toNat
def four (x : Int) : List UInt8 := [byteOf (x / 16777216), byteOf (x / 65536), byteOf (x / 256), byteOf x]
theorem four_len (x : Int) : (four x).length = 4 := rfl
theorem spec_l02Four.says (h : spec_l02Four.k M) (x : Int) : run M 202 [.c (U32 x)] [] = some (.c (S (four x)), []) := by
  refine run_code (b := spec_l02Four.m) h ⟨0, ?_⟩
  have e1 : x.fdiv 16777216 = x / 16777216 := Int.fdiv_eq_ediv_of_nonneg _ (by omega)
  have e2 : x.fdiv 65536 = x / 65536 := Int.fdiv_eq_ediv_of_nonneg _ (by omega)
  have e3 : x.fdiv 256 = x / 256 := Int.fdiv_eq_ediv_of_nonneg _ (by omega)
  simp [exB, spec_l02Four.m, spec_l02Four.b, List.range_succ, IntKind.bits, e1, e2, e3, rowsBytes, four, byteOf, wrap_u8]
theorem impl_four.says (h : impl_four.k M) (x : Int) : run M 204 [.c (I x)] [] = some (.c (S (four x)), []) := by
  refine run_code (b := impl_four.m) h ⟨0, ?_⟩
  have e1 : x.fdiv 16777216 = x / 16777216 := Int.fdiv_eq_ediv_of_nonneg _ (by omega)
  have e2 : x.fdiv 65536 = x / 65536 := Int.fdiv_eq_ediv_of_nonneg _ (by omega)
  have e3 : x.fdiv 256 = x / 256 := Int.fdiv_eq_ediv_of_nonneg _ (by omega)
  simp [exB, impl_four.m, impl_four.b, List.range_succ, IntKind.bits, e1, e2, e3, rowsBytes, four, byteOf, wrap_u8]
def sealed (l : List UInt8) : List UInt8 × Bool := if 20000 < l.length then ([], false) else (l ++ four (sumOf l), true)
theorem spec_Sealed.says (h : spec_Sealed.k M) (l : List UInt8) (hl : l.length ≤ 4611686018427387904) : run M 100 [.c (S l)] [] = some (.tup [.c (S (sealed l).1), .c (.bool (sealed l).2)], []) := by
  have h1 := spec_SumOf.says h.2.1 l hl
  have h2 := spec_l02Four.says h.2.2 (sumOf l)
  refine run_code (b := spec_Sealed.m) h.1 ⟨0, ?_⟩
  by_cases c : 20000 < l.length
  · have c' : 20000 < (l.length : Int) := by omega
    simp [exB, spec_Sealed.m, spec_Sealed.b, List.range_succ, sealed, c, c']
  · have c' : ¬ 20000 < (l.length : Int) := by omega
    have e := four_len (sumOf l)
    simp (disch := (first | omega | (simp; done) | (simp; omega))) [exB, spec_Sealed.m, spec_Sealed.b, List.range_succ, sealed, c, c', h1, h2, str_add, e]
theorem impl_Sealed.says (h : impl_Sealed.k M) (l : List UInt8) (hl : l.length ≤ 4611686018427387904) : run M 103 [.c (S l)] [] = some (.tup [.c (S (sealed l).1), .c (.bool (sealed l).2)], []) := by
  have h1 := impl_SumOf.says h.2.1 l hl
  have h2 := impl_four.says h.2.2 (sumOf l)
  refine run_code (b := impl_Sealed.m) h.1 ⟨0, ?_⟩
  by_cases c : 20000 < l.length
  · have c' : 20000 < (l.length : Int) := by omega
    simp [exB, impl_Sealed.m, impl_Sealed.b, List.range_succ, sealed, c, c']
  · have c' : ¬ 20000 < (l.length : Int) := by omega
    have e := four_len (sumOf l)
    have hin := sumOf_in l
    have e2 : IntKind.i64.wrap (sumOf l) = sumOf l := wrap_i64 (by have := hin.1; omega) (by have := hin.2; omega)
    simp (disch := (first | omega | (simp; done) | (simp; omega))) [exB, impl_Sealed.m, impl_Sealed.b, List.range_succ, sealed, c, c', h1, h2, str_add, e, e2]
end Mx

namespace Mx
open Go
variable {M : Nat → Option Body}
def fourN (a b c d : UInt8) : Nat := a.toNat * 16777216 + b.toNat * 65536 + c.toNat * 256 + d.toNat
theorem byteOf_eq (x : Int) (b : UInt8) : byteOf x = b ↔ x % 256 = b.toNat := by
  have hb := b.toNat_lt
  unfold byteOf
  rw [← UInt8.toNat_inj]
  rw [UInt8.toNat_ofNat']
  omega
theorem four_eq {x : Int} (h : in32 x) (a b c d : UInt8) : four x = [a, b, c, d] ↔ x = fourN a b c d := by
  have ha := a.toNat_lt
  have hb := b.toNat_lt
  have hc := c.toNat_lt
  have hd := d.toNat_lt
  obtain ⟨h1, h2⟩ := h
  simp only [four, List.cons.injEq, and_true, byteOf_eq, fourN]
  omega
theorem or_two (n k d : Nat) (h : n < 2 ^ k) : d * 2 ^ k ||| n = d * 2 ^ k + n := by
  have := Nat.two_pow_add_eq_or_of_lt (i := k) (b := n) h d
  rw [Nat.mul_comm d, ← this]
theorem or_m {m k d n : Nat} (hm : m = 2 ^ k) (h : n < m) : d * m ||| n = d * m + n := by subst hm; exact or_two n k d h
theorem z_two (a b : Nat) : a * 16777216 + b * 65536 = (a * 256 + b) * 65536 := by rw [Nat.add_mul, Nat.mul_assoc]
theorem z_three (a b c : Nat) : (a * 256 + b) * 65536 + c * 256 = (a * 65536 + b * 256 + c) * 256 := by simp only [Nat.add_mul, Nat.mul_assoc]
theorem fourAt_run (l : List UInt8) (n n1 n2 n3 : Nat) (a b c d : Int) (i0 : n < l.length) (i1 : n1 < l.length) (i2 : n2 < l.length) (i3 : n3 < l.length) (ha : (l[n].toNat : Int) = a) (hb : (l[n1].toNat : Int) = b) (hc : (l[n2].toNat : Int) = c) (hd : (l[n3].toNat : Int) = d)
    (w11 : IntKind.i64.wrap ((n : Int) + 1) = (n1 : Int)) (w12 : IntKind.i64.wrap ((n : Int) + 2) = (n2 : Int)) (w13 : IntKind.i64.wrap ((n : Int) + 3) = (n3 : Int)) (va : IntKind.i64.wrap a = a) (vb : IntKind.i64.wrap b = b) (vc : IntKind.i64.wrap c = c) (vd : IntKind.i64.wrap d = d)
    (y1 y2 y3 z1 z2 z3 : Int) (sh1 : shiftBin .shl .i64 a 24 = some (.int .i64 y1)) (sh2 : shiftBin .shl .i64 b 16 = some (.int .i64 y2)) (sh3 : shiftBin .shl .i64 c 8 = some (.int .i64 y3))
    (o1 : orI .i64 y1 y2 = z1) (o2 : orI .i64 z1 y3 = z2) (o3 : orI .i64 z2 d = z3) :
    exB (run M) 0 impl_fourAt.m [.c (S l), .c (I n)] [] = some (.c (I z3), []) := by
  simp [exB, impl_fourAt.m, impl_fourAt.b, List.range_succ, bs_get, i0, i1, i2, i3, ha, hb, hc, hd, w11, w12, w13, va, vb, vc, vd, sh1, sh2, sh3, o1, o2, o3, -shiftBin]
theorem impl_fourAt.says' (h : impl_fourAt.k M) (l : List UInt8) (n n1 n2 n3 : Nat) (m1 : n1 = n + 1) (m2 : n2 = n + 2) (m3 : n3 = n + 3) (i0 : n < l.length) (i1 : n1 < l.length) (i2 : n2 < l.length) (i3 : n3 < l.length) (hl : l.length ≤ 4611686018427387904) :
    run M 236 [.c (S l), .c (I n)] [] = some (.c (I (fourN l[n] l[n1] l[n2] l[n3])), []) := by
  refine run_code (b := impl_fourAt.m) h ⟨0, ?_⟩
  obtain ⟨a, ha⟩ : ∃ b, l[n] = b := ⟨_, rfl⟩
  obtain ⟨b, hb⟩ : ∃ b, l[n1] = b := ⟨_, rfl⟩
  obtain ⟨c, hc⟩ : ∃ b, l[n2] = b := ⟨_, rfl⟩
  obtain ⟨d, hd⟩ : ∃ b, l[n3] = b := ⟨_, rfl⟩
  rw [ha, hb, hc, hd]
  have ha' := a.toNat_lt
  have hb' := b.toNat_lt
  have hc' := c.toNat_lt
  have hd' := d.toNat_lt
  have w11 : IntKind.i64.wrap ((n : Int) + 1) = (n1 : Int) := by rw [wrap_i64 (by omega) (by omega)]; omega
  have w12 : IntKind.i64.wrap ((n : Int) + 2) = (n2 : Int) := by rw [wrap_i64 (by omega) (by omega)]; omega
  have w13 : IntKind.i64.wrap ((n : Int) + 3) = (n3 : Int) := by rw [wrap_i64 (by omega) (by omega)]; omega
  clear m1 m2 m3
  have v : ∀ x : UInt8, IntKind.i64.wrap (x.toNat : Int) = x.toNat := fun x => wrap_i64 (by omega) (by have := x.toNat_lt; omega)
  have s1 : IntKind.i64.wrap ((a.toNat : Int) * 16777216) = (a.toNat : Int) * 16777216 := wrap_i64 (by omega) (by omega)
  have s2 : IntKind.i64.wrap ((b.toNat : Int) * 65536) = (b.toNat : Int) * 65536 := wrap_i64 (by omega) (by omega)
  have s3 : IntKind.i64.wrap ((c.toNat : Int) * 256) = (c.toNat : Int) * 256 := wrap_i64 (by omega) (by omega)
  obtain ⟨z1, hz1⟩ : ∃ z : Nat, z = a.toNat * 16777216 + b.toNat * 65536 := ⟨_, rfl⟩
  obtain ⟨z2, hz2⟩ : ∃ z : Nat, z = z1 + c.toNat * 256 := ⟨_, rfl⟩
  obtain ⟨z3, hz3⟩ : ∃ z : Nat, z = z2 + d.toNat := ⟨_, rfl⟩
  have o1 : orI .i64 ((a.toNat : Int) * 16777216) ((b.toNat : Int) * 65536) = (z1 : Int) := by
    have := or_i64 (a.toNat * 16777216) (b.toNat * 65536) (by omega) (by omega)
    rw [or_m (m := 16777216) (k := 24) (by simp) (by omega), ← hz1] at this
    rw [show (a.toNat : Int) * 16777216 = ((a.toNat * 16777216 : Nat) : Int) by omega, show (b.toNat : Int) * 65536 = ((b.toNat * 65536 : Nat) : Int) by omega]
    exact this
  have o2 : orI .i64 (z1 : Int) ((c.toNat : Int) * 256) = (z2 : Int) := by
    have := or_i64 z1 (c.toNat * 256) (by omega) (by omega)
    have e : z1 = (a.toNat * 256 + b.toNat) * 65536 := by rw [hz1]; exact z_two _ _
    have e2 := or_m (m := 65536) (k := 16) (d := a.toNat * 256 + b.toNat) (n := c.toNat * 256) (by simp) (by omega)
    rw [← e, ← hz2] at e2
    rw [e2] at this
    rw [show (c.toNat : Int) * 256 = ((c.toNat * 256 : Nat) : Int) by omega]
    exact this
  have o3 : orI .i64 (z2 : Int) (d.toNat : Int) = (z3 : Int) := by
    have := or_i64 z2 d.toNat (by omega) (by omega)
    have e : z2 = (a.toNat * 65536 + b.toNat * 256 + c.toNat) * 256 := by rw [hz2, hz1, z_two]; exact z_three _ _ _
    have e2 := or_m (m := 256) (k := 8) (d := a.toNat * 65536 + b.toNat * 256 + c.toNat) (n := d.toNat) (by simp) (by omega)
    rw [← e, ← hz3] at e2
    rw [e2] at this
    exact this
  have hz : fourN a b c d = z3 := by unfold fourN; omega
  rw [hz]
  clear hz hz3 hz2 hz1
  have sh1 : shiftBin .shl .i64 (a.toNat : Int) 24 = some (.int .i64 ((a.toNat : Int) * 16777216)) := by simp [IntKind.bits, s1]
  have sh2 : shiftBin .shl .i64 (b.toNat : Int) 16 = some (.int .i64 ((b.toNat : Int) * 65536)) := by simp [IntKind.bits, s2]
  have sh3 : shiftBin .shl .i64 (c.toNat : Int) 8 = some (.int .i64 ((c.toNat : Int) * 256)) := by simp [IntKind.bits, s3]
  clear s1 s2 s3
  obtain ⟨y1, hy1⟩ : ∃ y : Int, y = (a.toNat : Int) * 16777216 := ⟨_, rfl⟩
  obtain ⟨y2, hy2⟩ : ∃ y : Int, y = (b.toNat : Int) * 65536 := ⟨_, rfl⟩
  obtain ⟨y3, hy3⟩ : ∃ y : Int, y = (c.toNat : Int) * 256 := ⟨_, rfl⟩
  rw [← hy1] at sh1 o1
  rw [← hy2] at sh2 o1
  rw [← hy3] at sh3 o2
  clear hy1 hy2 hy3
  exact fourAt_run l n n1 n2 n3 a.toNat b.toNat c.toNat d.toNat i0 i1 i2 i3 (by rw [ha]) (by rw [hb]) (by rw [hc]) (by rw [hd]) w11 w12 w13 (v a) (v b) (v c) (v d) y1 y2 y3 z1 z2 z3 sh1 sh2 sh3 o1 o2 o3
theorem impl_fourAt.says (h : impl_fourAt.k M) (l : List UInt8) (n : Nat) (hn : n + 4 ≤ l.length) (hl : l.length ≤ 4611686018427387904) :
    run M 236 [.c (S l), .c (I n)] [] = some (.c (I (fourN l[n] l[n + 1] l[n + 2] l[n + 3])), []) :=
  impl_fourAt.says' h l n (n + 1) (n + 2) (n + 3) rfl rfl rfl (by omega) (by omega) (by omega) (by omega) hl
/-- the text ahead of its sum -/
def unsealed (l : List UInt8) : List UInt8 × Bool :=
  if 4 ≤ l.length ∧ l.length ≤ 20004 ∧ l.drop (l.length - 4) = four (sumOf (l.take (l.length - 4))) then (l.take (l.length - 4), true) else ([], false)
theorem spec_Unsealed.says (h : spec_Unsealed.k M) (l : List UInt8) (hl : l.length ≤ 4611686018427387904) : run M 167 [.c (S l)] [] = some (.tup [.c (S (unsealed l).1), .c (.bool (unsealed l).2)], []) := by
  have e1 : IntKind.i64.wrap ((l.length : Int) - 4) = (l.length : Int) - 4 := wrap_i64 (by omega) (by omega)
  refine run_code (b := spec_Unsealed.m) h.1 ⟨0, ?_⟩
  by_cases c1 : 4 ≤ l.length
  rotate_left
  · have d1 : (l.length : Int) - 4 < 0 := by omega
    simp [exB, spec_Unsealed.m, spec_Unsealed.b, List.range_succ, e1, d1, unsealed, c1]
  have d1 : ¬ (l.length : Int) - 4 < 0 := by omega
  by_cases c2 : l.length ≤ 20004
  rotate_left
  · have d2 : 20000 < (l.length : Int) - 4 := by omega
    simp [exB, spec_Unsealed.m, spec_Unsealed.b, List.range_succ, e1, d1, d2, unsealed, c1, c2]
  have d2 : ¬ 20000 < (l.length : Int) - 4 := by omega
  have h1 := spec_SumOf.says h.2.1 (l.take (l.length - 4)) (by simp; omega)
  have h2 := spec_l02Four.says h.2.2 (sumOf (l.take (l.length - 4)))
  have e2 : ((l.length : Int) - 4).toNat = l.length - 4 := by omega
  have e3 : (0 : Int) ≤ (l.length : Int) - 4 := by omega
  have e3' : (4 : Int) ≤ (l.length : Int) := by omega
  have e4 : l.length - 4 ≤ l.length := by omega
  by_cases c3 : l.drop (l.length - 4) = four (sumOf (l.take (l.length - 4)))
  · simp [exB, spec_Unsealed.m, spec_Unsealed.b, List.range_succ, e1, d1, d2, e2, e3, e3', e4, h1, h2, unsealed, c1, c2, c3]
  · simp [exB, spec_Unsealed.m, spec_Unsealed.b, List.range_succ, e1, d1, d2, e2, e3, e3', e4, h1, h2, unsealed, c1, c2, c3]
theorem drop_four (l : List UInt8) (n : Nat) (h : n + 4 = l.length) : l.drop n = [l[n], l[n + 1], l[n + 2], l[n + 3]] := by
  apply List.ext_getElem
  · simp; omega
  · intro i h1 h2
    simp at h2
    have : i = 0 ∨ i = 1 ∨ i = 2 ∨ i = 3 := by omega
    rcases this with rfl | rfl | rfl | rfl <;> simp
theorem impl_Unsealed.says (h : impl_Unsealed.k M) (l : List UInt8) (hl : l.length ≤ 4611686018427387904) : run M 168 [.c (S l)] [] = some (.tup [.c (S (unsealed l).1), .c (.bool (unsealed l).2)], []) := by
  obtain ⟨h0, k1, k2, k3⟩ := h
  have e1 : IntKind.i64.wrap ((l.length : Int) - 4) = (l.length : Int) - 4 := wrap_i64 (by omega) (by omega)
  have hw := impl_within.says k1 ((l.length : Int) - 4) 0 20000
  refine run_code (b := impl_Unsealed.m) h0 ⟨0, ?_⟩
  by_cases c : 4 ≤ l.length ∧ l.length ≤ 20004
  rotate_left
  · have hb : (decide ((0 : Int) ≤ (l.length : Int) - 4) && decide ((l.length : Int) - 4 ≤ 20000)) = false := by
      rw [Bool.eq_false_iff]; intro hh; simp only [Bool.and_eq_true, decide_eq_true_eq] at hh; omega
    rw [hb] at hw
    have : unsealed l = ([], false) := by unfold unsealed; rw [if_neg (fun q => c ⟨q.1, q.2.1⟩)]
    simp [exB, impl_Unsealed.m, impl_Unsealed.b, List.range_succ, e1, hw, this]
  obtain ⟨c1, c2⟩ := c
  have hb : (decide ((0 : Int) ≤ (l.length : Int) - 4) && decide ((l.length : Int) - 4 ≤ 20000)) = true := by
    simp only [Bool.and_eq_true, decide_eq_true_eq]; omega
  rw [hb] at hw
  have h1 := impl_SumOf.says k2 (l.take (l.length - 4)) (by simp; omega)
  have hin := sumOf_in (l.take (l.length - 4))
  have h2 := impl_fourAt.says k3 l (l.length - 4) (by omega) hl
  rw [show ((l.length - 4 : Nat) : Int) = (l.length : Int) - 4 by omega] at h2
  have hd := drop_four l (l.length - 4) (by omega)
  have hq := four_eq hin (l[l.length - 4]'(by omega)) (l[l.length - 4 + 1]'(by omega)) (l[l.length - 4 + 2]'(by omega)) (l[l.length - 4 + 3]'(by omega))
  rw [← hd] at hq
  have e2 : ((l.length : Int) - 4).toNat = l.length - 4 := by omega
  have e3 : (0 : Int) ≤ (l.length : Int) - 4 := by omega
  have e3' : (4 : Int) ≤ (l.length : Int) := by omega
  have e4 : l.length - 4 ≤ l.length := by omega
  have e5 : IntKind.i64.wrap (sumOf (l.take (l.length - 4))) = sumOf (l.take (l.length - 4)) := wrap_i64 (by have := hin.1; omega) (by have := hin.2; omega)
  unfold unsealed
  generalize fourN (l[l.length - 4]'(by omega)) (l[l.length - 4 + 1]'(by omega)) (l[l.length - 4 + 2]'(by omega)) (l[l.length - 4 + 3]'(by omega)) = z at h2 hq
  by_cases c3 : l.drop (l.length - 4) = four (sumOf (l.take (l.length - 4)))
  · have c4 := hq.1 c3.symm
    have e6 : IntKind.i64.wrap (z : Int) = z := by rw [c4] at e5; exact e5
    rw [if_pos ⟨c1, c2, c3⟩]
    simp [exB, impl_Unsealed.m, impl_Unsealed.b, List.range_succ, e1, hw, e2, e3, e3', e4, h1, h2, e5, c4, e6]
  · have c4 : ¬ sumOf (l.take (l.length - 4)) = z := fun q => c3 (hq.2 q).symm
    rw [if_neg (fun q => c3 q.2.2)]
    simp [exB, impl_Unsealed.m, impl_Unsealed.b, List.range_succ, e1, hw, e2, e3, e3', e4, h1, h2, e5, c4]
end Mx

namespace Mx
open Go
variable {M : Nat → Option Body}
theorem rvGo_text (l : List UInt8) (a : Nat) : ∀ d k n r, rvGo l a d k n = some r → r.2.2 = true → a < r.2.1 ∧ r.2.1 ≤ l.length ∧ varT r.1 = (l.drop a).take (r.2.1 - a)
  | 0, k, n, r, h => by simp [rvGo] at h
  | d + 1, k, n, r, hr => by
    intro hq
    rw [rvGo] at hr
    by_cases h : a + k < l.length
    · rw [dif_pos h] at hr
      split at hr
      · simp only [Option.some.injEq] at hr
        subst hr
        split at hq
        · rename_i hc
          rw [if_pos hc]
          refine ⟨by simp only; omega, by simp only; omega, ?_⟩
          simp only
          rw [hc.2]; congr 1; omega
        · cases hq
      · exact rvGo_text l a d (k + 1) _ r hr hq
    · rw [dif_neg h] at hr; cases hr
theorem readShort_ok (l : List UInt8) (a : Int) (h : (readShort l a).2.2 = true) : ∃ m : Nat, a = m ∧ m < (readShort l a).2.1 ∧ (readShort l a).2.1 ≤ l.length ∧ (l.take (readShort l a).2.1).drop m = shortT (readShort l a).1 ∧ (readShort l a).1.length ≤ 20000 := by
  unfold readShort at h ⊢
  split at h
  · rename_i hc
    rw [if_pos hc]
    obtain ⟨c1, c2, c3⟩ := hc
    simp only
    unfold readVar at c1 c2 c3 ⊢
    split at c1
    · rename_i hr
      rw [if_pos hr] at c2 c3 ⊢
      obtain ⟨m, rfl⟩ := Int.eq_ofNat_of_zero_le hr.1
      simp only [Int.toNat_natCast] at c1 c2 c3 ⊢
      cases hg : rvGo l m 5 0 0 with
      | none => rw [hg] at c1; cases c1
      | some r =>
        rw [hg] at c1 c2 c3 
        simp only [Option.getD_some] at c1 c2 c3 ⊢
        obtain ⟨q1, q2, q3⟩ := rvGo_text l m 5 0 0 r hg c1
        refine ⟨m, rfl, by omega, by omega, ?_, by simp; omega⟩
        have hlen : ((l.drop r.2.1).take r.1).length = r.1 := by simp; omega
        unfold shortT
        rw [hlen, q3, List.drop_take]
        have e1 : r.2.1 + r.1 - m = (r.2.1 - m) + r.1 := by omega
        rw [e1, List.take_add, List.drop_drop]
        congr 3; omega
    · cases c1
  · cases h
end Mx

namespace Mx
open Go
variable {M : Nat → Option Body}
def Spans (l : List UInt8) (c c' : Cur) (t : List UInt8) : Prop := c'.2 = false → c.2 = false ∧ c.1 ≤ c'.1 ∧ (t = [] ∧ c'.1 = c.1 ∨ 0 ≤ c.1 ∧ c'.1 ≤ l.length ∧ (l.take c'.1.toNat).drop c.1.toNat = t)
theorem Spans.refl (l : List UInt8) (c : Cur) : Spans l c c [] := fun h => ⟨h, Int.le_refl _, .inl ⟨rfl, rfl⟩⟩
theorem take_drop_join (l : List UInt8) {m e f : Nat} (h : m ≤ e) (k : e ≤ f) : (l.take e).drop m ++ (l.take f).drop e = (l.take f).drop m := by
  have h1 : (l.take f).take e = l.take e := by rw [List.take_take, Nat.min_eq_left k]
  rw [← h1]
  generalize l.take f = x
  rw [← List.take_append_drop e (x.drop m)]
  by_cases he : e ≤ x.length
  · have : (x.drop m) = (x.take e).drop m ++ x.drop e := by
      conv => lhs; rw [← List.take_append_drop e x]
      rw [List.drop_append_of_le_length (by simp; omega)]
    rw [List.take_append_drop, this]
  · rw [List.take_append_drop, List.take_of_length_le (by omega), List.drop_eq_nil_of_le (by omega : x.length ≤ e), List.append_nil]
theorem Spans.trans {l : List UInt8} {c d e : Cur} {t u : List UInt8} (h : Spans l c d t) (k : Spans l d e u) : Spans l c e (t ++ u) := by
  intro he
  obtain ⟨hd, k1, k2⟩ := k he
  obtain ⟨hc, h1, h2⟩ := h hd
  refine ⟨hc, by omega, ?_⟩
  rcases h2 with ⟨rfl, h2⟩ | ⟨h2, h3, h4⟩
  · rcases k2 with ⟨rfl, k2⟩ | ⟨k2, k3, k4⟩
    · exact .inl ⟨rfl, by omega⟩
    · right; rw [h2] at k4 k2; exact ⟨k2, k3, by simpa using k4⟩
  · right
    rcases k2 with ⟨rfl, k2⟩ | ⟨k2, k3, k4⟩
    · rw [k2]; exact ⟨h2, h3, by simpa using h4⟩
    · refine ⟨h2, k3, ?_⟩
      rw [← h4, ← k4, take_drop_join l (by omega) (by omega)]
theorem Spans.bad {l : List UInt8} {c d : Cur} {t : List UInt8} (h : Spans l c d t) (hc : c.2 = true) : d.2 = true := by
  cases hd : d.2 with
  | true => rfl
  | false => rw [(h hd).1] at hc; cases hc
theorem readVar_text (l : List UInt8) (a : Int) (h : (readVar l a).2.2 = true) : 0 ≤ a ∧ (l.take (readVar l a).2.1).drop a.toNat = varT (readVar l a).1 := by
  obtain ⟨h1, h2, h3⟩ := readVar_le l a
  have h4 := h3 h
  refine ⟨h4.1, ?_⟩
  unfold readVar at h ⊢
  split at h
  · rename_i hr
    rw [if_pos hr]
    cases hg : rvGo l a.toNat 5 0 0 with
    | none => rw [hg] at h; cases h
    | some r =>
      rw [hg] at h
      simp only [Option.getD_some] at h ⊢
      obtain ⟨q1, q2, q3⟩ := rvGo_text l a.toNat 5 0 0 r hg h
      rw [q3, List.drop_take]
  · cases h
theorem cvar_spans (l : List UInt8) (c : Cur) : Spans l c (cvar l c).2 (varI (cvar l c).1) := by
  intro h
  unfold cvar at h ⊢
  split at h
  · cases h
  · rename_i hn
    rw [if_neg hn]
    rw [not_or] at hn
    have h1 : (readVar l c.1).2.2 = true := by simpa using hn.2
    obtain ⟨h2, h3, h4⟩ := readVar_le l c.1
    have h5 := h4 h1
    obtain ⟨h6, h7⟩ := readVar_text l c.1 h1
    refine ⟨by simpa using hn.1, by simp only; omega, .inr ⟨h6, by simp only; omega, ?_⟩⟩
    simp only [varI, Int.toNat_natCast]
    exact h7
theorem cshort_spans (l : List UInt8) (c : Cur) : Spans l c (cshort l c).2 (shortT (cshort l c).1) := by
  intro h
  unfold cshort at h ⊢
  split at h
  · cases h
  · rename_i hn
    rw [if_neg hn]
    rw [not_or] at hn
    have h1 : (readShort l c.1).2.2 = true := by simpa using hn.2
    obtain ⟨m, h2, h3, h4, h5, h6⟩ := readShort_ok l c.1 h1
    refine ⟨by simpa using hn.1, by simp only; omega, .inr ⟨by omega, by simp only; omega, ?_⟩⟩
    have h7 : c.1.toNat = m := by omega
    simp only [h7, Int.toNat_natCast]
    exact h5
theorem cstamp_spans (l : List UInt8) (c : Cur) : Spans l c (cstamp l c).2 (varI (cstamp l c).1.1 ++ varI (cstamp l c).1.2) := (cvar_spans l c).trans (cvar_spans l _)
theorem cmany_spans (l : List UInt8) (most : Int) (c : Cur) : Spans l c (cmany l most c).2 (varI (cmany l most c).1) := by
  intro h
  unfold cmany at h ⊢
  split at h
  · cases h
  · rename_i hn; rw [if_neg hn]; exact cvar_spans l c h
theorem crep_spans {α : Type} {l : List UInt8} {p : Cur → α × Cur} {t : α → List UInt8} (hp : ∀ c, Spans l c (p c).2 (t (p c).1)) : ∀ n c, Spans l c (crep p n c).2 (texts t (crep p n c).1)
  | 0, c => Spans.refl l c
  | n + 1, c => by
    have := (hp c).trans (crep_spans hp n (p c).2)
    simpa [crep, texts] using this
theorem cnums_spans (l : List UInt8) (most : Int) (c : Cur) : Spans l c (cnums l most c).2 (varT (cnums l most c).1.length ++ texts varI (cnums l most c).1) := by
  have h := (cmany_spans l most c).trans (crep_spans (cvar_spans l) (cmany l most c).1.toNat (cmany l most c).2)
  have hn := cmany_nn l most c
  unfold cnums
  rw [crep_len]
  exact h
theorem creg_spans (l : List UInt8) (c : Cur) : Spans l c (creg l c).2 (regT (creg l c).1) := by
  have := (cvar_spans l c).trans (cstamp_spans l (cvar l c).2)
  simpa [creg, regT, texts] using this
theorem cmail_spans (l : List UInt8) (c : Cur) : Spans l c (cmail l c).2 (mailT (cmail l c).1) := by
  have h1 := ((cvar_spans l c).trans (cvar_spans l (cvar l c).2)).trans (crep_spans (creg_spans l) 3 (cvar l (cvar l c).2).2)
  have := h1.trans (cshort_spans l _)
  simp only [cmail, mailT]
  simpa [texts] using this
theorem cboxH_spans (l : List UInt8) (c : Cur) : Spans l c (cboxH l c).2 (varI (cboxH l c).1.gid ++ (shortT (cboxH l c).1.name ++ (varI (cboxH l c).1.time ++ (varI (cboxH l c).1.who ++ varI (cboxH l c).1.next)))) := by
  have h1 := (((cvar_spans l c).trans (cshort_spans l _)).trans (cstamp_spans l _)).trans (cvar_spans l (cstamp l (cshort l (cvar l c).2).2).2)
  simpa [cboxH] using h1
theorem cbox_spans (l : List UInt8) (c : Cur) : Spans l c (cbox l c).2 (boxT (cbox l c).1) := by
  have h1 := ((cboxH_spans l c).trans (cmany_spans l 10 _)).trans ((crep_spans (cmail_spans l) (cmany l 10 (cboxH l c).2).1.toNat (cmany l 10 (cboxH l c).2).2).trans (cnums_spans l 40 _))
  have hn := crep_len (cmail l) (cmany l 10 (cboxH l c).2).1.toNat (cmany l 10 (cboxH l c).2).2
  simp only [boxT, boxP, cbox, hn]
  simpa [shortT, varI] using h1
def cupto {α : Type} (p : Cur → α × Cur) : Nat → Cur → List α × Cur
  | 0, c => ([], c)
  | n + 1, c => if c.2 = true then ([], c) else ((p c).1 :: (cupto p n (p c).2).1, (cupto p n (p c).2).2)
theorem crep_bad {α : Type} {p : Cur → α × Cur} (hp : ∀ c, c.2 = true → (p c).2.2 = true) : ∀ n c, c.2 = true → (crep p n c).2.2 = true
  | 0, c, h => h
  | n + 1, c, h => crep_bad hp n _ (hp c h)
theorem cupto_rep {α : Type} {p : Cur → α × Cur} (hp : ∀ c, c.2 = true → (p c).2.2 = true) : ∀ n c, cupto p n c = crep p n c ∨ (cupto p n c).2.2 = true ∧ (crep p n c).2.2 = true
  | 0, c => .inl rfl
  | n + 1, c => by
    simp only [cupto]
    split
    · rename_i h; exact .inr ⟨h, crep_bad hp (n + 1) c h⟩
    · rcases cupto_rep hp n (p c).2 with h | h
      · left; rw [h]; rfl
      · exact .inr h
theorem cupto_bad {α : Type} {p : Cur → α × Cur} (n : Nat) (c : Cur) (h : c.2 = true) : cupto p n c = ([], c) := by
  cases n with
  | zero => rfl
  | succ n => simp [cupto, h]
theorem cupto_len {α : Type} {p : Cur → α × Cur} (hp : ∀ c, c.2 = true → (p c).2.2 = true) : ∀ n c, (cupto p n c).2.2 = false → (cupto p n c).1.length = n := by
  intro n c h
  rcases cupto_rep hp n c with q | q
  · rw [q, crep_len]
  · rw [q.1] at h; cases h
theorem upto_loop {α β γ : Type} (n : Nat) (p : Cur → α × Cur) {f : St → Option (Out × St)} (S : Nat → List α → Cur → β → St) (e : Nat) (E : List α → Cur → γ → St)
    (h1 : ∀ i, i < n → ∀ acc c x, acc.length = i → c.2 = false → ∃ y, f (S i acc c x) = some (.normal, S (i + 1) (acc ++ [(p c).1]) (p c).2 y))
    (h2 : ∀ i, i < n → ∀ acc c x, acc.length = i → c.2 = true → ∃ y, f (S i acc c x) = some (.exit e, E acc c y))
    (h3 : ∀ acc c x, acc.length = n → ∃ y, f (S n acc c x) = some (.exit e, E acc c y)) (c : Cur) :
    ∃ g : β → γ, ∀ x, loopN f (n + 1) (S 0 [] c x) = some (.exit e, E (cupto p n c).1 (cupto p n c).2 (g x)) := by
  have := loop_all (f := f) (fun s : Nat × List α × Cur => S s.1 s.2.1 s.2.2) (fun s => s.1 ≤ n ∧ s.2.1.length = s.1) (fun s => n - s.1) (fun s => (s.2.1 ++ (cupto p (n - s.1) s.2.2).1, (cupto p (n - s.1) s.2.2).2)) (fun q m => (.exit e, E q.1 q.2 m)) ?_ (n + 1) (0, [], c) ⟨Nat.zero_le _, rfl⟩ (by simp)
  · simpa using this
  rintro ⟨i, acc, c⟩ x ⟨hi, ha⟩
  simp only at hi ha
  by_cases hlt : i < n
  · cases hc : c.2
    · left
      obtain ⟨y, hy⟩ := h1 i hlt acc c x ha hc
      refine ⟨(i + 1, acc ++ [(p c).1], (p c).2), y, hy, ⟨hlt, by simp [ha]⟩, by simp only; omega, ?_⟩
      simp only
      rw [show n - i = (n - (i + 1)) + 1 by omega]
      simp [cupto, hc]
    · right
      obtain ⟨y, hy⟩ := h2 i hlt acc c x ha hc
      exact ⟨y, by simp [hy, cupto_bad _ _ hc], by simp⟩
  · have : i = n := by omega
    subst this
    right
    obtain ⟨y, hy⟩ := h3 acc c x ha
    exact ⟨y, by simp [hy, cupto], by simp⟩
def cints (l : List UInt8) (most : Nat) (c : Cur) : List Int × Cur := cupto (cvar l) (Min.min (cvar l c).1.toNat (most + 1)) (cvar l c).2
def inS (l : List UInt8) (most n : Nat) (i : Nat) (acc : List Int) (c : Cur) (x : Nat × Nat) : St := { t := [(0, .c curP), (1, .c (I most)), (5, .c (I n)), (6, .c (.row 10 x.1 0 i)), (7, .c (I i))], o := [(0, curO 0 l c), (10, ⟨x.1, 1, true, false, irow acc⟩)], n := x.2 }
def inE (l : List UInt8) (most n : Nat) (acc : List Int) (c : Cur) (x : Nat × Nat) : St := { t := [(0, .c curP), (1, .c (I most)), (5, .c (I n)), (6, .c (.row 10 x.1 0 acc.length)), (7, .c (I acc.length)), (25, .c (.bool false))], o := [(0, curO 0 l c), (10, ⟨x.1, 1, true, false, irow acc⟩)], n := x.2 }
theorem spec_l10Ints.says (h : spec_l10Ints.k M) (l : List UInt8) (hl : l.length ≤ 4611686018427387904) (most : Nat) (hm : most ≤ 1000) (c : Cur) :
    run M 142 [.c curP, .c (I most)] [(0, curO 0 l c)] = some (.c (.sl true 1 (irow (cints l most c).1)), [(0, curO 0 l (cints l most c).2)]) := by
  obtain ⟨h0, k1⟩ := h
  have h1 := spec_l05Var.says k1 l hl c
  have hn := cvar_nn l c
  unfold cints
  generalize cvar l c = q at *
  obtain ⟨n, c1⟩ := q
  simp only at hn ⊢
  obtain ⟨n, rfl⟩ := Int.eq_ofNat_of_zero_le hn.1
  simp only [Int.toNat_natCast]
  generalize hd : Min.min n (most + 1) = d
  have hd1 : d ≤ n := by omega
  have hd2 : d ≤ most + 1 := by omega
  have hd3 : d = n ∨ d = most + 1 := by omega
  refine run_code (b := spec_l10Ints.m) h0 ⟨d + 1, ?_⟩
  obtain ⟨g, hr⟩ := upto_loop (f := exC (run M) (d + 1) spec_l10Ints.l0) d (cvar l) (inS l most n) 0 (inE l most n)
    (fun i hi acc c x ha hc => by
      obtain ⟨v, x⟩ := x
      have h2 := spec_l05Var.says k1 l hl c
      have e5 := wrap1 (i := i) (by omega)
      have e6 : i + 1 ≤ 4294967296 := by omega
      have h3 : (i : Int) < n := by omega
      have h4 : (i : Int) ≤ most := by omega
      have h4' : i ≤ most := by omega
      have h3' : i < n := by omega
      obtain ⟨ca, cb⟩ := c
      simp only at hc
      subst hc
      simp only [Prod.exists]
      simp (maxSteps := 1000000) [spec_l10Ints.l0, List.range_succ, bs_get, setAt, inS, h3, h4, h3', h4', h2, e5, e6, ha, irow, List.take_of_length_le])
    (fun i hi acc c x ha hc => by
      obtain ⟨v, x⟩ := x
      have h3 : i < n := by omega
      have h4 : i ≤ most := by omega
      obtain ⟨ca, cb⟩ := c
      simp only at hc
      subst hc
      simp only [Prod.exists]
      simp (maxSteps := 1000000) [spec_l10Ints.l0, List.range_succ, bs_get, setAt, inS, inE, h3, h4, ha])
    (fun acc c x ha => by
      obtain ⟨v, x⟩ := x
      simp only [Prod.exists]
      rcases hd3 with h3 | h3
      · have h4 : ¬ d < n := by omega
        simp (maxSteps := 1000000) [spec_l10Ints.l0, List.range_succ, bs_get, setAt, inS, inE, h4, ha]
      · have h4 : ¬ d ≤ most := by omega
        by_cases h5 : d < n
        · simp (maxSteps := 1000000) [spec_l10Ints.l0, List.range_succ, bs_get, setAt, inS, inE, h4, h5, ha]
        · simp (maxSteps := 1000000) [spec_l10Ints.l0, List.range_succ, bs_get, setAt, inS, inE, h4, h5, ha]) c1
  have hlen : (cupto (cvar l) d c1).1.length ≤ (cupto (cvar l) d c1).1.length := Nat.le_refl _
  simp [inS, inE, irow] at hr
  simp (maxSteps := 1000000) [exB, spec_l10Ints.m, spec_l10Ints.b, List.range_succ, bs_get, setAt, h1, hr, irow, List.take_of_length_le]
end Mx

namespace Mx
open Go
variable {M : Nat → Option Body}
theorem spec_l05Var.at (h : spec_l05Var.k M) (l : List UInt8) (hl : l.length ≤ 4611686018427387904) (a : Int) (b : Bool) :
    run M 139 [.c curP] [(0, ⟨0, 3, true, true, [[S l, I a, .bool b]]⟩)] = some (.c (I (cvar l (a, b)).1), [(0, curO 0 l (cvar l (a, b)).2)]) := spec_l05Var.says h l hl (a, b)
theorem impl_scan_num.at (h : impl_scan_num.k M) (l : List UInt8) (hl : l.length ≤ 4611686018427387904) (a : Int) (b : Bool) :
    run M 152 [.c curP] [(0, ⟨0, 3, true, true, [[S l, I a, .bool b]]⟩)] = some (.c (I (cvar l (a, b)).1), [(0, curO 0 l (cvar l (a, b)).2)]) := impl_scan_num.says h l hl (a, b)
def mail0 : Mail := ⟨0, 0, [], []⟩
def readMail (l : List UInt8) (a : Int) : Mail × Int × Bool := if (cmail l (a, false)).2.2 = false ∧ mailOk (cmail l (a, false)).1 = true then ((cmail l (a, false)).1, (cmail l (a, false)).2.1, true) else (mail0, 0, false)
def rmS (l : List UInt8) (g u : Int) (i : Nat) (acc : List Reg) (c : Cur) (x : Four) : St := { t := [(4, .c (.ptr 4 x.a 0 0)), (7, .c (.ptr 14 2000096 0 0)), (8, .c (.ptr 8 x.b 0 0)), (9, .c (I i))], o := [(4, ⟨x.a, 4, true, true, [mzero]⟩), (8, ⟨x.b, 4, true, true, [[I g, I u, if i = 0 then .nils 3 else .row 40 x.c 0 i, .str ⟨#[]⟩]]⟩), (14, curO 2000096 l c)] ++ if i = 0 then [] else [(40, ⟨x.c, 3, true, false, acc.map encReg⟩)], n := x.d }
def rmE (l : List UInt8) (g u : Int) (acc : List Reg) (c : Cur) (x : Four) : St := { t := [(4, .c (.ptr 4 x.a 0 0)), (7, .c (.ptr 14 2000096 0 0)), (8, .c (.ptr 8 x.b 0 0)), (9, .c (I 3)), (22, .c (.bool false))], o := [(4, ⟨x.a, 4, true, true, [mzero]⟩), (8, ⟨x.b, 4, true, true, [[I g, I u, .row 40 x.c 0 3, .str ⟨#[]⟩]]⟩), (14, curO 2000096 l c), (40, ⟨x.c, 3, true, false, acc.map encReg⟩)], n := x.d }
theorem spec_ReadMail.says (h : spec_ReadMail.k M) (l : List UInt8) (hl : l.length ≤ 4611686018427387904) (a : Int) :
    run M 141 [.c (S l), .c (I a)] [] = some (.tup [.a (encMailO (readMail l a).1), .c (I (readMail l a).2.1), .c (.bool (readMail l a).2.2)], []) := by
  obtain ⟨h0, k1, k2, k3⟩ := h
  have h1 := spec_l05Var.at k1 l hl a false
  have h2 := spec_l05Var.says k1 l hl (cvar l (a, false)).2
  refine run_code (b := spec_ReadMail.m) h0 ⟨4, ?_⟩
  obtain ⟨g, hr⟩ := rep_loop (f := exC (run M) 4 spec_ReadMail.l0) 3 (creg l) (rmS l (cvar l (a, false)).1 (cvar l (cvar l (a, false)).2).1) 0 (rmE l (cvar l (a, false)).1 (cvar l (cvar l (a, false)).2).1)
    (fun i hi acc c x ha => by
      obtain ⟨v, w, z, x⟩ := x
      have h2 := spec_l05Var.says k1 l hl c
      have h3 := spec_l05Var.says k1 l hl (cvar l c).2
      have h4 := spec_l05Var.says k1 l hl (cvar l (cvar l c).2).2
      simp only [Four.ex]
      cases i with
      | zero =>
        have : acc = [] := List.eq_nil_of_length_eq_zero ha
        subst this
        simp (maxSteps := 1000000) [spec_ReadMail.l0, List.range_succ, bs_get, setAt, rmS, h2, h3, h4, wrap_one, encReg, creg, cstamp]
      | succ i =>
        have e5 : IntKind.i64.wrap ((i : Int) + 1 + 1) = (i : Int) + 1 + 1 := wrap_i64 (by omega) (by omega)
        have e6 : i + 1 + 1 ≤ 4294967296 := by omega
        have e7 : (i : Int) + 1 < 3 := by omega
        simp (maxSteps := 1000000) [spec_ReadMail.l0, List.range_succ, bs_get, setAt, rmS, e7, h2, h3, h4, e5, e6, ha, encReg, creg, cstamp, List.take_of_length_le])
    (fun acc c x ha => by
      obtain ⟨v, w, z, x⟩ := x
      simp only [Four.ex]
      simp (maxSteps := 1000000) [spec_ReadMail.l0, List.range_succ, bs_get, setAt, rmS, rmE]) (cvar l (cvar l (a, false)).2).2
  have hlen := crep_len (creg l) 3 (cvar l (cvar l (a, false)).2).2
  have h4 := spec_l05Short.says k2 l hl (crep (creg l) 3 (cvar l (cvar l (a, false)).2).2).2
  have h5 := spec_MailOk.says k3 (cmail l (a, false)).1 (by simp [cmail, crep_len])
  obtain ⟨q, hq⟩ : ∃ q, crep (creg l) 3 (cvar l (cvar l (a, false)).2).2 = q := ⟨_, rfl⟩
  have e : cmail l (a, false) = (⟨(cvar l (a, false)).1, (cvar l (cvar l (a, false)).2).1, q.1, (cshort l q.2).1⟩, (cshort l q.2).2) := by rw [← hq]; rfl
  rw [hq] at hr hlen h4
  rw [e] at h5
  unfold readMail
  rw [e]
  replace hr := fun a b d => hr ⟨a, b, 0, d⟩
  simp [rmS, rmE] at hr
  simp only [encMail] at h5
  generalize cshort l q.2 = r at *
  cases c1 : r.2.2
  · generalize mailOk _ = ok at *
    cases ok <;> simp (maxSteps := 1000000) [exB, spec_ReadMail.m, spec_ReadMail.b, List.range_succ, bs_get, setAt, h1, h2, h4, h5, hr, hlen, c1, mail0, List.take_of_length_le]
  · simp (maxSteps := 1000000) [exB, spec_ReadMail.m, spec_ReadMail.b, List.range_succ, bs_get, setAt, h1, h2, h4, hr, hlen, c1, mail0, List.take_of_length_le]
end Mx

namespace Mx
open Go
variable {M : Nat → Option Body}
/-- mails, as long as each is right -/
def cmok (l : List UInt8) : Nat → Cur → Option (List Mail × Cur)
  | 0, c => some ([], c)
  | d + 1, c => if (cmail l c).2.2 = false ∧ mailOk (cmail l c).1 = true then (cmok l d (cmail l c).2).map fun r => ((cmail l c).1 :: r.1, r.2) else none
def box0 : Box := ⟨0, [], 0, 0, 0, [], []⟩
def readBox (l : List UInt8) (a : Int) : Box × Int × Bool := if (cbox l (a, false)).2.2 = false ∧ boxOk (cbox l (a, false)).1 = true then ((cbox l (a, false)).1, (cbox l (a, false)).2.1, true) else (box0, 0, false)
/-- what this side reads, right or not -/
def sbox (l : List UInt8) (c : Cur) : Option (Box × Cur) :=
  let h := cboxH l c
  let k := cvar l h.2
  (cmok l (Min.min k.1.toNat 11) k.2).map fun ms => ({ h.1 with mails := ms.1, gone := (cints l 40 ms.2).1 }, (cints l 40 ms.2).2)
theorem cmail_bad (l : List UInt8) (c : Cur) (h : c.2 = true) : (cmail l c).2.2 = true := (cmail_spans l c).bad h
theorem cvar_bad2 (l : List UInt8) (c : Cur) (h : c.2 = true) : (cvar l c).2.2 = true := (cvar_spans l c).bad h
theorem cmok_some {l : List UInt8} : ∀ {d : Nat} {c : Cur} {r : List Mail × Cur}, cmok l d c = some r → crep (cmail l) d c = r ∧ (∀ m ∈ r.1, mailOk m = true) ∧ (c.2 = false → r.2.2 = false) ∧ r.1.length = d
  | 0, c, r, h => by simp [cmok] at h; subst h; simp [crep]
  | d + 1, c, r, h => by
    simp only [cmok] at h
    split at h
    · rename_i hc
      simp only [Option.map_eq_some_iff] at h
      obtain ⟨q, hq, rfl⟩ := h
      obtain ⟨h1, h2, h3, h4⟩ := cmok_some hq
      refine ⟨by simp [crep, h1], ?_, fun _ => h3 hc.1, by simp [h4]⟩
      intro m hm
      rcases List.mem_cons.1 hm with rfl | hm
      · exact hc.2
      · exact h2 m hm
    · cases h
theorem cmok_none {l : List UInt8} : ∀ {d : Nat} {c : Cur}, cmok l d c = none → (crep (cmail l) d c).2.2 = true ∨ ∃ m ∈ (crep (cmail l) d c).1, mailOk m = false
  | 0, c, h => by simp [cmok] at h
  | d + 1, c, h => by
    simp only [cmok] at h
    split at h
    · rename_i hc
      simp only [Option.map_eq_none_iff] at h
      rcases cmok_none h with h1 | ⟨m, h1, h2⟩
      · exact .inl h1
      · exact .inr ⟨m, List.mem_cons_of_mem _ h1, h2⟩
    · rename_i hc
      cases h1 : (cmail l c).2.2
      · right
        refine ⟨_, List.mem_cons_self .., ?_⟩
        cases h2 : mailOk (cmail l c).1
        · rfl
        · exact (hc ⟨h1, h2⟩).elim
      · left; exact crep_bad (cmail_bad l) d _ h1
theorem boxOk_not {b : Box} (h : (10 < b.mails.length ∨ 40 < b.gone.length) ∨ ∃ m ∈ b.mails, mailOk m = false) : boxOk b = false := by
  cases hb : boxOk b
  · rfl
  · obtain ⟨h1, h2, h3, h4, h5, h6, h7, h8, h9⟩ := boxOk_vars hb
    rcases h with (h | h) | ⟨m, hm, h⟩
    · omega
    · omega
    · rw [h9 m hm] at h; cases h
theorem cnums_bad (l : List UInt8) (most : Int) (c : Cur) (h : c.2 = true) : (cnums l most c).2.2 = true := (cnums_spans l most c).bad h
/-- lists of numbers: this side's and the other's -/
theorem cints_nums (l : List UInt8) (most : Nat) (c : Cur) : ((cints l most c).2.2 = true ∨ most < (cints l most c).1.length) ∧ (cnums l most c).2.2 = true ∨ cints l most c = cnums l most c := by
  have hn := cvar_nn l c
  unfold cints cnums cmany
  by_cases h1 : (cvar l c).2.2 = true
  · left
    rw [if_pos (.inr h1)]
    simp only [Int.toNat_zero, crep, and_true]
    left; rw [cupto_bad _ _ h1]; exact h1
  · by_cases h2 : (most : Int) < (cvar l c).1
    · left
      rw [if_pos (.inl h2)]
      simp only [Int.toNat_zero, crep, and_true]
      rw [show Min.min (cvar l c).1.toNat (most + 1) = most + 1 by omega]
      cases h3 : (cupto (cvar l) (most + 1) (cvar l c).2).2.2
      · right; rw [cupto_len (cvar_bad2 l) _ _ h3]; omega
      · exact .inl rfl
    · rw [if_neg (by rw [not_or]; exact ⟨h2, h1⟩)]
      rw [show Min.min (cvar l c).1.toNat (most + 1) = (cvar l c).1.toNat by omega]
      rcases cupto_rep (cvar_bad2 l) (cvar l c).1.toNat (cvar l c).2 with h | h
      · exact .inr h
      · exact .inl ⟨.inl h.1, h.2⟩
theorem sbox_key {l : List UInt8} {c : Cur} {r : Box × Cur} (hr : sbox l c = some r) : cbox l c = r ∨ (r.2.2 = true ∨ boxOk r.1 = false) ∧ (cbox l c).2.2 = true := by
  have hn := cvar_nn l (cboxH l c).2
  simp only [sbox, Option.map_eq_some_iff] at hr
  obtain ⟨ms, hms, rfl⟩ := hr
  obtain ⟨h1, h2, h3, h4⟩ := cmok_some hms
  simp only [cbox, cmany]
  by_cases hb : (cvar l (cboxH l c).2).2.2 = true
  · right
    rw [if_pos (.inr hb)]
    have hms2 : ms.2.2 = true := by rw [← h1]; exact crep_bad (cmail_bad l) _ _ hb
    refine ⟨.inl ?_, ?_⟩
    · simp only [cints]; rw [cupto_bad _ _ (cvar_bad2 l _ hms2)]; exact cvar_bad2 l _ hms2
    · exact cnums_bad l _ _ (crep_bad (cmail_bad l) _ _ rfl)
  · by_cases ht : 10 < (cvar l (cboxH l c).2).1
    · right
      rw [if_pos (.inl ht)]
      refine ⟨.inr (boxOk_not (.inl (.inl ?_))), cnums_bad l _ _ (crep_bad (cmail_bad l) _ _ rfl)⟩
      simp only [h4]; omega
    · rw [if_neg (by rw [not_or]; exact ⟨ht, hb⟩)]
      rw [show Min.min (cvar l (cboxH l c).2).1.toNat 11 = (cvar l (cboxH l c).2).1.toNat by omega] at h1
      rw [h1]
      rcases cints_nums l 40 ms.2 with ⟨q1, q2⟩ | q
      · right
        refine ⟨?_, q2⟩
        rcases q1 with q1 | q1
        · exact .inl q1
        · exact .inr (boxOk_not (.inl (.inr q1)))
      · left; rw [q]; rfl
theorem sbox_box (l : List UInt8) (c : Cur) : (match sbox l c with | some r => r.2.2 = false ∧ boxOk r.1 = true | none => False) ↔ (cbox l c).2.2 = false ∧ boxOk (cbox l c).1 = true := by
  have hn := cvar_nn l (cboxH l c).2
  cases hs : sbox l c with
  | some r =>
    simp only
    rcases sbox_key hs with h | ⟨h1, h2⟩
    · rw [h]
    · constructor
      · rintro ⟨h3, h4⟩
        rcases h1 with h1 | h1
        · rw [h1] at h3; cases h3
        · rw [h1] at h4; cases h4
      · rintro ⟨h3, _⟩; rw [h2] at h3; cases h3
  | none =>
    simp only [false_iff]
    rintro ⟨h3, h4⟩
    simp only [sbox, Option.map_eq_none_iff] at hs
    have hk := cmok_none hs
    simp only [cbox, cmany] at h3 h4
    by_cases hb : (cvar l (cboxH l c).2).2.2 = true
    · rw [if_pos (.inr hb)] at h3
      rw [cnums_bad l _ _ (crep_bad (cmail_bad l) _ _ rfl)] at h3; cases h3
    · by_cases ht : 10 < (cvar l (cboxH l c).2).1
      · rw [if_pos (.inl ht)] at h3
        rw [cnums_bad l _ _ (crep_bad (cmail_bad l) _ _ rfl)] at h3; cases h3
      · rw [if_neg (by rw [not_or]; exact ⟨ht, hb⟩)] at h3 h4
        rw [show Min.min (cvar l (cboxH l c).2).1.toNat 11 = (cvar l (cboxH l c).2).1.toNat by omega] at hk
        rcases hk with hk | ⟨m, hm, hk⟩
        · rw [cnums_bad l _ _ hk] at h3; cases h3
        · rw [boxOk_not (.inr ⟨m, hm, hk⟩)] at h4; cases h4
theorem readBox_s (l : List UInt8) (a : Int) : readBox l a = match sbox l (a, false) with
    | some r => if r.2.2 = false ∧ boxOk r.1 = true then (r.1, r.2.1, true) else (box0, 0, false)
    | none => (box0, 0, false) := by
  have h := sbox_box l (a, false)
  unfold readBox
  cases hs : sbox l (a, false) with
  | none =>
    rw [hs] at h
    simp only [false_iff] at h
    rw [if_neg h]
  | some r =>
    rw [hs] at h
    simp only at h ⊢
    by_cases c : r.2.2 = false ∧ boxOk r.1 = true
    · rw [if_pos c, if_pos (h.1 c)]
      rcases sbox_key hs with q | ⟨q1, q2⟩
      · rw [q]
      · rw [(h.1 c).1] at q2; cases q2
    · rw [if_neg c, if_neg fun k => c (h.2 k)]
end Mx

namespace Mx
open Go
variable {M : Nat → Option Body}
def rbO (b : Box) (i : Nat) (acc : List Mail) (l : List UInt8) (c : Cur) (x : Four) : List (Nat × Ob) := [(4, ⟨x.a, 7, true, true, [bzero]⟩), (8, ⟨x.b, 7, true, true, [[I b.gid, S b.name, I b.time, I b.who, I b.next, if i = 0 then .nils 4 else .row 70 x.c 0 i, .nils 1]]⟩), (17, curO 2000096 l c)] ++ if i = 0 then [] else [(70, ⟨x.c, 4, true, false, acc.map encMail⟩)]
def rbS (l : List UInt8) (b : Box) (n i : Nat) (acc : List Mail) (c : Cur) (x : Four) : St := { t := [(0, .c (S l)), (4, .c (.ptr 4 x.a 0 0)), (7, .c (.ptr 17 2000096 0 0)), (8, .c (.ptr 8 x.b 0 0)), (9, .c (I n)), (10, .c (I i))], o := rbO b i acc l c x, n := x.d }
def rbE (l : List UInt8) (b : Box) (n i : Nat) (acc : List Mail) (c : Cur) (x : Four) : St := { t := [(0, .c (S l)), (4, .c (.ptr 4 x.a 0 0)), (7, .c (.ptr 17 2000096 0 0)), (8, .c (.ptr 8 x.b 0 0)), (9, .c (I n)), (10, .c (I i)), (50, .c (.bool false))], o := rbO b i acc l c x, n := x.d }
def rbF (l : List UInt8) (b : Box) (n : Nat) (q : Option (List Mail × Cur)) (m : Four × List (Nat × Ob)) : Out × St := match q with
  | none => (.ret, { t := [(4, .c (.ptr 4 m.1.a 0 0)), (5, .c (I 0)), (6, .c (.bool false))], o := (4, ⟨m.1.a, 7, true, true, [bzero]⟩) :: m.2, n := m.1.d })
  | some r => (.exit 0, rbE l b n r.1.length r.1 r.2 m.1)
theorem rbF_ne (l : List UInt8) (b : Box) (n : Nat) (q : Option (List Mail × Cur)) (m : Four × List (Nat × Ob)) : (rbF l b n q m).1 ≠ .normal := by cases q <;> simp [rbF]
theorem spec_ReadBox.loop (k5 : spec_ReadMail.k M) (l : List UInt8) (hl : l.length ≤ 4611686018427387904) (b : Box) (n D : Nat) (hD : Min.min n 11 = D) (c : Cur) (hc : 0 < D → c.2 = false) :
    ∃ g : Four → Four × List (Nat × Ob), ∀ x, loopN (exC (run M) (D + 1) spec_ReadBox.l0) (D + 1) (rbS l b n 0 [] c x) = some (rbF l b n (cmok l D c) (g x)) := by
  have := loop_all (f := exC (run M) (D + 1) spec_ReadBox.l0) (fun s : Nat × List Mail × Cur => rbS l b n s.1 s.2.1 s.2.2) (fun s => s.1 ≤ D ∧ s.2.1.length = s.1 ∧ (s.1 < D → s.2.2.2 = false)) (fun s => D - s.1)
    (fun s => (cmok l (D - s.1) s.2.2).map fun r => (s.2.1 ++ r.1, r.2)) (rbF l b n) ?_ (D + 1) (0, [], c) ⟨Nat.zero_le _, rfl, hc⟩ (by simp)
  · simpa using this
  rintro ⟨i, acc, c⟩ x ⟨hi, ha, hc⟩
  simp only at hi ha hc
  by_cases hlt : i < D
  · have hc := hc hlt
    obtain ⟨ca, cb⟩ := c
    simp only at hc
    subst hc
    have h2 := spec_ReadMail.says k5 l hl ca
    have h3 : i < n := by omega
    have h4 : i ≤ 10 := by omega
    have h3' : (i : Int) < n := by omega
    have h4' : (i : Int) ≤ 10 := by omega
    have hd : D - i = (D - (i + 1)) + 1 := by omega
    obtain ⟨xa, xb, xc, xd⟩ := x
    unfold readMail at h2
    by_cases hk : (cmail l (ca, false)).2.2 = false ∧ mailOk (cmail l (ca, false)).1 = true
    · left
      rw [if_pos hk] at h2
      refine ⟨(i + 1, acc ++ [(cmail l (ca, false)).1], (cmail l (ca, false)).2), ?_⟩
      have hcc : (cmail l (ca, false)).2 = ((cmail l (ca, false)).2.1, false) := Prod.ext rfl hk.1
      have hres : (cmok l (D - (i + 1)) (cmail l (ca, false)).2).map (fun r => ((acc ++ [(cmail l (ca, false)).1]) ++ r.1, r.2)) = (cmok l (D - i) (ca, false)).map fun r => (acc ++ r.1, r.2) := by
        rw [hd, cmok, if_pos hk, Option.map_map]
        congr 1
        funext r; simp
      simp only [hres, and_true]
      have hrun : ∃ y, exC (run M) (D + 1) spec_ReadBox.l0 (rbS l b n i acc (ca, false) ⟨xa, xb, xc, xd⟩) = some (.normal, rbS l b n (i + 1) (acc ++ [(cmail l (ca, false)).1]) (cmail l (ca, false)).2 y) := by
        rw [hcc]
        generalize cmail l (ca, false) = r at *
        simp only [Four.ex]
        cases i with
        | zero =>
          have : acc = [] := List.eq_nil_of_length_eq_zero ha
          subst this
          simp (maxSteps := 1000000) [spec_ReadBox.l0, List.range_succ, bs_get, setAt, rbS, rbO, h2, h3, h4, wrap_one, encMailO, encMail]
        | succ i =>
          have e5 : IntKind.i64.wrap ((i : Int) + 1 + 1) = (i : Int) + 1 + 1 := wrap_i64 (by omega) (by omega)
          have e6 : i + 1 + 1 ≤ 4294967296 := by omega
          have h3' : (i : Int) + 1 < n := by omega
          have h4' : (i : Int) + 1 ≤ 10 := by omega
          simp (maxSteps := 1000000) [spec_ReadBox.l0, List.range_succ, bs_get, setAt, rbS, rbO, h3', h4', h2, e5, e6, ha, encMailO, encMail, List.take_of_length_le]
      obtain ⟨y, hy⟩ := hrun
      exact ⟨y, hy, ⟨hlt, by simp [ha], fun _ => hk.1⟩, by omega⟩
    · right
      rw [if_neg hk] at h2
      rw [hd, cmok, if_neg hk]
      have hrun : ∃ z, exC (run M) (D + 1) spec_ReadBox.l0 (rbS l b n i acc (ca, false) ⟨xa, xb, xc, xd⟩) = some (rbF l b n none z) := by
        simp only [Prod.exists, Four.ex]
        cases i with
        | zero =>
          have : acc = [] := List.eq_nil_of_length_eq_zero ha
          subst this
          simp (maxSteps := 1000000) [spec_ReadBox.l0, List.range_succ, bs_get, setAt, rbS, rbO, rbF, h2, h3, h4, mail0]
        | succ i =>
          have h3' : (i : Int) + 1 < n := by omega
          have h4' : (i : Int) + 1 ≤ 10 := by omega
          simp (maxSteps := 1000000) [spec_ReadBox.l0, List.range_succ, bs_get, setAt, rbS, rbO, rbF, h3', h4', h2, ha, mail0]
      obtain ⟨z, hz⟩ := hrun
      exact ⟨z, hz, rbF_ne _ _ _ _ _⟩
  · have : i = D := by omega
    subst this
    right
    rw [Nat.sub_self]
    simp only [cmok, Option.map_some, List.append_nil]
    have hrun : ∃ z, exC (run M) (i + 1) spec_ReadBox.l0 (rbS l b n i acc c x) = some (rbF l b n (some (acc, c)) (z, [])) := by
      obtain ⟨xa, xb, xc, xd⟩ := x
      simp only [Four.ex]
      have hx : i = n ∨ i = 11 := by omega
      rcases hx with rfl | rfl
      · by_cases hz : i = 0
        · subst hz
          simp (maxSteps := 1000000) [spec_ReadBox.l0, List.range_succ, bs_get, setAt, rbS, rbE, rbF, rbO, ha]
        · simp (maxSteps := 1000000) [spec_ReadBox.l0, List.range_succ, bs_get, setAt, rbS, rbE, rbF, rbO, ha, hz]
      · have h1 : 11 ≤ n := by omega
        by_cases h2 : (11 : Int) < n
        · simp (maxSteps := 1000000) [spec_ReadBox.l0, List.range_succ, bs_get, setAt, rbS, rbE, rbF, rbO, ha, h2]
        · simp (maxSteps := 1000000) [spec_ReadBox.l0, List.range_succ, bs_get, setAt, rbS, rbE, rbF, rbO, ha, h2]
    obtain ⟨z, hz⟩ := hrun
    exact ⟨(z, []), hz, rbF_ne _ _ _ _ _⟩
end Mx

namespace Mx
open Go
variable {M : Nat → Option Body}
theorem cshort_len (l : List UInt8) (c : Cur) : (cshort l c).1.length ≤ l.length := by
  have h : (readShort l c.1).1.length ≤ l.length := by
    unfold readShort; split
    · simp; omega
    · simp
  unfold cshort; split
  · simp
  · exact h
theorem cmail_flags (l : List UInt8) (c : Cur) : (cmail l c).1.flags.length = 3 := by simp [cmail, crep_len]
theorem cmok_flags {l : List UInt8} : ∀ {d : Nat} {c : Cur} {r : List Mail × Cur}, cmok l d c = some r → ∀ m ∈ r.1, m.flags.length = 3
  | 0, c, r, h => by simp [cmok] at h; subst h; simp
  | d + 1, c, r, h => by
    simp only [cmok] at h
    split at h
    · simp only [Option.map_eq_some_iff] at h
      obtain ⟨q, hq, rfl⟩ := h
      intro m hm
      rcases List.mem_cons.1 hm with rfl | hm
      · exact cmail_flags l c
      · exact cmok_flags hq m hm
    · cases h
theorem cupto_le {α : Type} {p : Cur → α × Cur} : ∀ n c, (cupto p n c).1.length ≤ n
  | 0, c => by simp [cupto]
  | n + 1, c => by
    simp only [cupto]; split
    · simp
    · have := cupto_le (p := p) n (p c).2; simp; omega
set_option maxHeartbeats 1000000 in
theorem spec_ReadBox.says (h : spec_ReadBox.k M) (l : List UInt8) (hl : l.length ≤ 1048576) (a : Int) :
    run M 52 [.c (S l), .c (I a)] [] = some (.tup [.a (encBoxO (readBox l a).1), .c (I (readBox l a).2.1), .c (.bool (readBox l a).2.2)], []) := by
  obtain ⟨h0, k1, k2, k3, k5, k4⟩ := h
  have hl2 : l.length ≤ 4611686018427387904 := by omega
  have h1 := spec_l05Var.at k2 l hl2 a false
  have h2 := spec_l05Short.says k3 l hl2 (cvar l (a, false)).2
  have h3 := spec_l05Var.says k2 l hl2 (cshort l (cvar l (a, false)).2).2
  have h4 := spec_l05Var.says k2 l hl2 (cvar l (cshort l (cvar l (a, false)).2).2).2
  have h5 := spec_l05Var.says k2 l hl2 (cvar l (cvar l (cshort l (cvar l (a, false)).2).2).2).2
  rw [readBox_s]
  have e0 : sbox l (a, false) = (cmok l (Min.min (cvar l (cboxH l (a, false)).2).1.toNat 11) (cvar l (cboxH l (a, false)).2).2).map fun ms => ({ (cboxH l (a, false)).1 with mails := ms.1, gone := (cints l 40 ms.2).1 }, (cints l 40 ms.2).2) := rfl
  rw [e0]
  have e1 : cboxH l (a, false) = (⟨(cvar l (a, false)).1, (cshort l (cvar l (a, false)).2).1, (cvar l (cshort l (cvar l (a, false)).2).2).1, (cvar l (cvar l (cshort l (cvar l (a, false)).2).2).2).1, (cvar l (cvar l (cvar l (cshort l (cvar l (a, false)).2).2).2).2).1, [], []⟩, (cvar l (cvar l (cvar l (cshort l (cvar l (a, false)).2).2).2).2).2) := rfl
  rw [e1]
  clear e0 e1
  have hname := cshort_len l (cvar l (a, false)).2
  generalize cvar l (a, false) = q1 at *
  generalize cshort l q1.2 = q2 at *
  generalize cvar l q2.2 = q3 at *
  generalize cvar l q3.2 = q4 at *
  generalize cvar l q4.2 = q5 at *
  have h6 := spec_l05Var.says k2 l hl2 q5.2
  have hn := cvar_nn l q5.2
  have hz : (cvar l q5.2).2.2 = true → (cvar l q5.2).1 = 0 := by
    unfold cvar; split
    · intro _; rfl
    · intro h; cases h
  simp only
  generalize cvar l q5.2 = q6 at *
  obtain ⟨n, c1⟩ := q6
  simp only at hn hz ⊢
  obtain ⟨n, rfl⟩ := Int.eq_ofNat_of_zero_le hn.1
  simp only [Int.toNat_natCast]
  obtain ⟨D, hD⟩ : ∃ D, Min.min n 11 = D := ⟨_, rfl⟩
  refine run_code (b := spec_ReadBox.m) h0 ⟨D + 1, ?_⟩
  obtain ⟨g, hr⟩ := spec_ReadBox.loop k5 l hl2 ⟨q1.1, q2.1, q3.1, q4.1, q5.1, [], []⟩ n D hD c1 (fun hd => by
    cases hc : c1.2
    · rfl
    · have := hz hc; omega)
  rw [hD]
  replace hr := fun a b d => hr ⟨a, b, 0, d⟩
  cases hq : cmok l D c1 with
  | none =>
    simp only [hq] at hr
    simp [rbS, rbO, rbF] at hr
    simp only [Option.map_none]
    simp (maxSteps := 1000000) [exB, spec_ReadBox.m, spec_ReadBox.b, List.range_succ, bs_get, setAt, h1, h2, h3, h4, h5, h6, hr, box0, irow]
  | some r =>
    simp only [hq] at hr
    simp only [Option.map_some]
    obtain ⟨m1, m2, m3, m4⟩ := cmok_some hq
    have m5 := cmok_flags hq
    have h7 := spec_l10Ints.says k4 l hl2 40 (by omega) r.2
    simp only [Int.cast_ofNat_Int] at h7
    have hgl : (cints l 40 r.2).1.length ≤ 41 := by
      unfold cints
      exact Nat.le_trans (cupto_le _ _) (by omega)
    have h8 := spec_BoxOk.says k1 ⟨q1.1, q2.1, q3.1, q4.1, q5.1, r.1, (cints l 40 r.2).1⟩ (by simp only [m4]; omega) (by simp only; omega) (by simp only; omega) (fun m hm => by rw [m5 m hm]; omega)
    simp only [encBox] at h8
    generalize cints l 40 r.2 = w at *
    generalize hbb : boxOk _ = ok at *
    by_cases hz : D = 0
    · have hr0 : r.1 = [] := List.eq_nil_of_length_eq_zero (by omega)
      subst hz
      simp [rbS, rbE, rbO, rbF, hr0] at hr
      simp only [hr0, mails, ints, irow, List.map_nil] at h8
      cases c1 : w.2.2
      · cases ok <;> simp (maxSteps := 1000000) [exB, spec_ReadBox.m, spec_ReadBox.b, List.range_succ, bs_get, setAt, h1, h2, h3, h4, h5, h6, h7, h8, hr, hr0, c1, box0, irow, List.take_of_length_le]
      · simp (maxSteps := 1000000) [exB, spec_ReadBox.m, spec_ReadBox.b, List.range_succ, bs_get, setAt, h1, h2, h3, h4, h5, h6, h7, hr, hr0, c1, box0, irow, List.take_of_length_le]
    · have hz' : ¬ r.1.length = 0 := by omega
      have hz'' : r.1 ≠ [] := fun e => hz' (by rw [e]; rfl)
      simp only [mails, ints, irow] at h8
      simp [rbS, rbE, rbO, rbF, hz''] at hr
      cases c1 : w.2.2
      · cases ok <;> simp (maxSteps := 1000000) [exB, spec_ReadBox.m, spec_ReadBox.b, List.range_succ, bs_get, setAt, h1, h2, h3, h4, h5, h6, h7, h8, hr, hz'', c1, box0, irow, List.take_of_length_le]
      · simp (maxSteps := 1000000) [exB, spec_ReadBox.m, spec_ReadBox.b, List.range_succ, bs_get, setAt, h1, h2, h3, h4, h5, h6, h7, hr, hz'', c1, box0, irow, List.take_of_length_le]
end Mx

namespace Mx
open Go
variable {M : Nat → Option Body}
theorem storeOk_vars {s : Store} (h : storeOk s = true) : isVar s.who ∧ isVar s.time ∧ s.boxes.length ≤ 5 ∧ s.gone.length ≤ 20 ∧ (∀ n ∈ s.gone, isVar n) ∧ (∀ b ∈ s.boxes, boxOk b = true) ∧ 1 ≤ s.who ∧ s.who ≤ 2 := by
  simp only [storeOk, Bool.and_eq_true, decide_eq_true_eq, Option.isNone_iff_eq_none, firstN_isNone, inR_iff] at h
  obtain ⟨⟨⟨⟨h1, h2⟩, h3⟩, h4⟩, h5⟩ := h
  have hg := gidsOk_vars h4
  refine ⟨⟨by omega, by omega⟩, ⟨by omega, by omega⟩, h3, by omega, fun n hn => ⟨by have := hg.2 n hn; omega, by have := hg.2 n hn; omega⟩, fun b hb => ?_, h1.1, h1.2⟩
  obtain ⟨i, hi, rfl⟩ := List.getElem_of_mem hb
  have := h5 i hi
  rw [badAt_at hi, badBox_at hi] at this
  simp at this
  exact this.1.1.1.1.1
theorem boxT_len {b : Box} (h : boxOk b = true) : (boxT b).length ≤ 11000 := by
  obtain ⟨v1, v2, v3, v4, v5, v6, v7, v8, v9⟩ := boxOk_vars h
  have := boxP_len h
  have := texts_len varI b.gone 10 fun n hn => isVar_len (v8 n hn)
  have := texts_len mailT b.mails 1000 fun m hm => mailT_len (v9 m hm)
  have := varT_len (n := b.gone.length) (by omega)
  simp only [boxT, List.length_append]; omega
/-- ahead of the boxes -/
def storeP (s : Store) : List UInt8 := varI s.who ++ (varI s.time ++ varT s.boxes.length)
def storeT (s : Store) : List UInt8 := storeP s ++ (texts boxT s.boxes ++ (varT s.gone.length ++ texts varI s.gone))
def storeText (s : Store) : List UInt8 × Bool := if storeOk s = true then sealed (storeT s) else ([], false)
theorem storeP_len {s : Store} (h : storeOk s = true) : (storeP s).length ≤ 30 := by
  obtain ⟨v1, v2, v3, v4, v5, v6, _⟩ := storeOk_vars h
  have := isVar_len v1; have := isVar_len v2; have := varT_len (n := s.boxes.length) (by omega)
  simp only [storeP, List.length_append]; omega
def sxS (s : Store) (i : Nat) (t : List UInt8) (x : Nat × Nat) : St := { t := [(1, .c (.ptr 1 x.1 0 0)), (4, .c (S t)), (5, .c (I i))], o := [(1, ⟨x.1, 4, true, true, [encStore s]⟩)], n := x.2 }
def sxE (s : Store) (t : List UInt8) (x : Nat × Nat) : St := { t := [(1, .c (.ptr 1 x.1 0 0)), (4, .c (S t)), (5, .c (I s.boxes.length)), (28, .c (.bool false))], o := [(1, ⟨x.1, 4, true, true, [encStore s]⟩)], n := x.2 }
def sx2S (s : Store) (i : Nat) (t : List UInt8) (x : Nat × Nat) : St := { t := [(1, .c (.ptr 1 x.1 0 0)), (4, .c (S t)), (8, .c (I i))], o := [(1, ⟨x.1, 4, true, true, [encStore s]⟩)], n := x.2 }
def sx2E (s : Store) (t : List UInt8) (x : Nat × Nat) : St := { t := [(1, .c (.ptr 1 x.1 0 0)), (4, .c (S t)), (8, .c (I s.gone.length)), (53, .c (.bool false))], o := [(1, ⟨x.1, 4, true, true, [encStore s]⟩)], n := x.2 }
set_option maxHeartbeats 1000000 in
theorem spec_StoreText.says (h : spec_StoreText.k M) (s : Store) (hs : StoreIn s) : run M 60 [.a (encStore s)] [] = some (.tup [.c (S (storeText s).1), .c (.bool (storeText s).2)], []) := by
  obtain ⟨h0, kb, kv, kse, ko⟩ := h
  have h1 := spec_StoreOk.says ko s hs
  refine run_code (b := spec_StoreText.m) h0 ⟨s.boxes.length + s.gone.length + 1, ?_⟩
  simp only [encStore] at h1
  unfold storeText
  cases c : storeOk s
  · rw [c] at h1
    simp (maxSteps := 1000000) [exB, spec_StoreText.m, spec_StoreText.b, List.range_succ, bs_get, setAt, h1]
  rw [c] at h1
  obtain ⟨v1, v2, v3, v4, v5, v6, _⟩ := storeOk_vars c
  have g1 := spec_l01Var.int kv s.who v1.1 (by have := v1.2; omega)
  have g2 := spec_l01Var.int kv s.time v2.1 (by have := v2.2; omega)
  have g6 := spec_l01Var.says kv s.boxes.length (by omega)
  have g7 := spec_l01Var.says kv s.gone.length (by omega)
  have l1 := isVar_len v1; have l2 := isVar_len v2
  have l7 := varT_len (n := s.boxes.length) (by omega); have l8 := varT_len (n := s.gone.length) (by omega)
  have l9 := texts_len varI s.gone 10 fun n hn => isVar_len (v5 n hn)
  have l10 := texts_len boxT s.boxes 11000 fun b hb => boxT_len (v6 b hb)
  have hp := storeP_len c
  obtain ⟨g, hr⟩ := text_loop (f := exC (run M) (s.boxes.length + s.gone.length + 1) spec_StoreText.l0) s.boxes boxT 11000 30 (fun b hb => boxT_len (v6 b hb)) (sxS s) 0 (sxE s)
    (fun i hi t x ht => by
      obtain ⟨v, x⟩ := x
      have e5 := wrap1 (i := i) (by omega)
      have hx := v6 _ (List.getElem_mem hi)
      have hin := (hs.i _ (List.getElem_mem hi)).ok
      have h6 := spec_BoxText.says kb s.boxes[i] hin.1 hin.2.1 hin.2.2.1 hin.2.2.2
      rw [if_pos hx, hx] at h6
      have h7 := boxT_len hx
      simp only [encBox] at h6
      simp only [Prod.exists]
      have e6 := str_add t (boxT s.boxes[i]) (by omega)
      simp (maxSteps := 1000000) [spec_StoreText.l0, List.range_succ, bs_get, setAt, sxS, hi, h6, e5, e6, encBox])
    (fun t x => by
      obtain ⟨v, x⟩ := x
      simp only [Prod.exists]
      simp (maxSteps := 1000000) [spec_StoreText.l0, List.range_succ, bs_get, setAt, sxS, sxE]) (storeP s) hp
  obtain ⟨g', hr'⟩ := text_loop (f := exC (run M) (s.boxes.length + s.gone.length + 1) spec_StoreText.l1) s.gone varI 10 56000 (fun n hn => isVar_len (v5 n hn)) (sx2S s) 2 (sx2E s)
    (fun i hi t x ht => by
      obtain ⟨v, x⟩ := x
      have e5 := wrap1 (i := i) (by omega)
      have hx := v5 _ (List.getElem_mem hi)
      have h6 := spec_l01Var.int kv s.gone[i] hx.1 (by have := hx.2; omega)
      have h7 := isVar_len hx
      simp only [Prod.exists]
      have e6 := str_add t (varI s.gone[i]) (by omega)
      simp (maxSteps := 1000000) [spec_StoreText.l1, List.range_succ, bs_get, setAt, sx2S, hi, h6, e5, e6])
    (fun t x => by
      obtain ⟨v, x⟩ := x
      simp only [Prod.exists]
      simp (maxSteps := 1000000) [spec_StoreText.l1, List.range_succ, bs_get, setAt, sx2S, sx2E]) (storeP s ++ texts boxT s.boxes ++ varT s.gone.length) (by simp; omega)
  have e1 := str_add (varI s.who) (varI s.time) (by omega)
  have e2 := str_add (varI s.who ++ varI s.time) (varT s.boxes.length) (by simp; omega)
  have e3 : storeP s = varI s.who ++ varI s.time ++ varT s.boxes.length := by simp [storeP]
  rw [← e3] at e2
  have e8 := str_add (storeP s ++ texts boxT s.boxes) (varT s.gone.length) (by simp; omega)
  have hse := spec_Sealed.says kse (storeT s) (by simp only [storeT, List.length_append]; omega)
  simp only [storeT] at hse ⊢
  simp only [List.append_assoc] at e1 e2 e8 hse
  simp [sxS, sxE] at hr
  simp [sx2S, sx2E] at hr'
  have hr2 := fun x y => loopN_le (hr x y) (show s.boxes.length + 1 ≤ s.boxes.length + s.gone.length + 1 by omega)
  have hr3 := fun x y => loopN_le (hr' x y) (show s.gone.length + 1 ≤ s.boxes.length + s.gone.length + 1 by omega)
  generalize storeP s = p at *
  generalize texts boxT s.boxes = q at *
  generalize texts varI s.gone = r at *
  simp (maxSteps := 1000000) [exB, spec_StoreText.m, spec_StoreText.b, List.range_succ, bs_get, setAt, hr2, hr3, h1, g1, g2, g6, g7, e1, e2, e8, hse]
end Mx

namespace Mx
open Go
variable {M : Nat → Option Body}
def cstore (u : List UInt8) (c : Cur) : Store × Cur :=
  let w := cvar u c
  let t := cvar u w.2
  let k := cmany u 5 t.2
  let bs := crep (cbox u) k.1.toNat k.2
  let go := cnums u 20 bs.2
  (⟨w.1, t.1, bs.1, go.1⟩, go.2)
def store0 : Store := ⟨0, 0, [], []⟩
def readStore (l : List UInt8) : Store × Bool :=
  if (unsealed l).2 = true ∧ (cstore (unsealed l).1 (0, false)).2.2 = false ∧ (cstore (unsealed l).1 (0, false)).2.1 = (unsealed l).1.length ∧ storeOk (cstore (unsealed l).1 (0, false)).1 = true
  then ((cstore (unsealed l).1 (0, false)).1, true) else (store0, false)
theorem crep_all {α : Type} {p : Cur → α × Cur} {Q : α → Prop} (h : ∀ c, Q (p c).1) : ∀ n c, ∀ x ∈ (crep p n c).1, Q x
  | 0, c, x, hx => by simp [crep] at hx
  | n + 1, c, x, hx => by
    simp only [crep] at hx
    rcases List.mem_cons.1 hx with rfl | hx
    · exact h c
    · exact crep_all h n _ x hx
theorem cnums_len (l : List UInt8) (most : Nat) (c : Cur) : (cnums l most c).1.length ≤ most := by
  have := cmany_nn l most c
  unfold cnums; rw [crep_len]; omega
/-- a box as it is read is small -/
structure BoxRd (u : List UInt8) (b : Box) : Prop where
  m : b.mails.length ≤ 10
  g : b.gone.length ≤ 40
  n : b.name.length ≤ u.length
  f : ∀ m ∈ b.mails, m.flags.length = 3
theorem cbox_rd (u : List UInt8) (c : Cur) : BoxRd u (cbox u c).1 := by
  have hn := cmany_nn u 10 (cboxH u c).2
  refine ⟨?_, ?_, ?_, ?_⟩
  · simp only [cbox, crep_len]; omega
  · have := cnums_len u 40 (crep (cmail u) (cmany u 10 (cboxH u c).2).1.toNat (cmany u 10 (cboxH u c).2).2).2
    exact this
  · exact cshort_len u _
  · exact crep_all (fun c => cmail_flags u c) _ _
theorem BoxRd.is {u : List UInt8} {b : Box} (h : BoxRd u b) (hu : u.length ≤ 1048576) : BoxIn b := ⟨by have := h.m; omega, by have := h.g; omega, by have := h.n; omega, fun m hm => by rw [h.f m hm]; omega⟩
theorem flat_le {α : Type} (f : α → List Int) (k : Nat) : ∀ (l : List α), (∀ x ∈ l, (f x).length ≤ k) → (l.flatMap f).length ≤ l.length * k
  | [], _ => by simp
  | x :: l, h => by
    have h1 := flat_le f k l fun y hy => h y (List.mem_cons_of_mem _ hy)
    have h2 := h x (List.mem_cons_self ..)
    have : (l.length + 1) * k = l.length * k + k := Nat.succ_mul _ _
    simp only [List.flatMap_cons, List.length_append, List.length_cons]; omega
theorem storeIn_rd {u : List UInt8} {s : Store} (hu : u.length ≤ 1048576) (h1 : s.boxes.length ≤ 10) (h2 : s.gone.length ≤ 100) (h3 : ∀ b ∈ s.boxes, BoxRd u b) : StoreIn s := by
  refine ⟨by omega, by omega, fun b hb => (h3 b hb).is hu, ?_⟩
  have := flat_le gidsOf 10 s.boxes fun b hb => by rw [gidsOf_len]; exact (h3 b hb).m
  omega
abbrev s3zero : List T := [I 0, I 0, .nils 7, .nils 1]
def rsO (w t : Int) (i : Nat) (acc : List Box) (v : Nat) (u : List UInt8) (c : Cur) (x : Four) : List (Nat × Ob) := [(2, ⟨x.a, 4, true, true, [s3zero]⟩), (7, ⟨x.b, 4, true, true, [[I w, I t, if i = 0 then .nils 7 else .row 35 x.c 0 i, .nils 1]]⟩), (17, curO v u c)] ++ if i = 0 then [] else [(35, ⟨x.c, 7, true, false, acc.map encBox⟩)]
def rsS (u : List UInt8) (ok : Bool) (w t : Int) (n i : Nat) (acc : List Box) (c : Cur) (x : Four) : St := { t := [(2, .c (.ptr 2 x.a 0 0)), (4, .c (S u)), (5, .c (.bool ok)), (6, .c (.ptr 17 2000176 0 0)), (7, .c (.ptr 7 x.b 0 0)), (26, .c (I n)), (27, .c (I i))], o := rsO w t i acc 2000176 u c x, n := x.d }
def rsE (u : List UInt8) (ok : Bool) (w t : Int) (n : Nat) (acc : List Box) (c : Cur) (x : Four) : St := { t := [(2, .c (.ptr 2 x.a 0 0)), (4, .c (S u)), (5, .c (.bool ok)), (6, .c (.ptr 17 2000176 0 0)), (7, .c (.ptr 7 x.b 0 0)), (26, .c (I n)), (27, .c (I n)), (28, .c (.bool false))], o := rsO w t n acc 2000176 u c x, n := x.d }
set_option maxHeartbeats 1000000 in
theorem impl_ReadStore.says (h : impl_ReadStore.k M) (l : List UInt8) (hl : l.length ≤ 1048576) :
    run M 76 [.c (S l)] [] = some (.tup [.a (encStoreO (readStore l).1), .c (.bool (readStore l).2)], []) := by
  obtain ⟨h0, k1, k2, k3, k4, k5, k6⟩ := h
  have h1 := impl_Unsealed.says k4 l (by omega)
  have hu : (unsealed l).1.length ≤ 1048576 := by unfold unsealed; split <;> simp; omega
  unfold readStore
  generalize unsealed l = un at *
  obtain ⟨u, ok⟩ := un
  simp only at hu ⊢
  have hu2 : u.length ≤ 4611686018427387904 := by omega
  have h2 := impl_scan_num.at k3 u hu2 0 false
  have h3 := impl_scan_num.says k3 u hu2 (cvar u (0, false)).2
  have e0 : cstore u (0, false) = (⟨(cvar u (0, false)).1, (cvar u (cvar u (0, false)).2).1, (crep (cbox u) (cmany u 5 (cvar u (cvar u (0, false)).2).2).1.toNat (cmany u 5 (cvar u (cvar u (0, false)).2).2).2).1, (cnums u 20 (crep (cbox u) (cmany u 5 (cvar u (cvar u (0, false)).2).2).1.toNat (cmany u 5 (cvar u (cvar u (0, false)).2).2).2).2).1⟩, (cnums u 20 (crep (cbox u) (cmany u 5 (cvar u (cvar u (0, false)).2).2).1.toNat (cmany u 5 (cvar u (cvar u (0, false)).2).2).2).2).2) := rfl
  rw [e0]
  clear e0
  generalize cvar u (0, false) = q1 at *
  generalize cvar u q1.2 = q2 at *
  have h4 := impl_scan_many.says k5 u hu2 5 q2.2
  have hn := cmany_nn u 5 q2.2
  generalize cmany u 5 q2.2 = q3 at *
  obtain ⟨n, c1⟩ := q3
  simp only at hn ⊢
  obtain ⟨n, rfl⟩ := Int.eq_ofNat_of_zero_le hn.1
  simp only [Int.toNat_natCast]
  refine run_code (b := impl_ReadStore.m) h0 ⟨n + 1, ?_⟩
  obtain ⟨g, hr⟩ := rep_loop (f := exC (run M) (n + 1) impl_ReadStore.l0) n (cbox u) (rsS u ok q1.1 q2.1 n) 0 (rsE u ok q1.1 q2.1 n)
    (fun i hi acc c x ha => by
      obtain ⟨v, w, z, x⟩ := x
      have h2 := impl_scan_box.says k1 u hu2 c
      simp only [Four.ex]
      cases i with
      | zero =>
        have : acc = [] := List.eq_nil_of_length_eq_zero ha
        subst this
        simp (maxSteps := 1000000) [impl_ReadStore.l0, List.range_succ, bs_get, setAt, rsS, rsO, hi, h2, wrap_one, encBoxO, encBox, ints]
      | succ i =>
        have e5 : IntKind.i64.wrap ((i : Int) + 1 + 1) = (i : Int) + 1 + 1 := wrap_i64 (by omega) (by omega)
        have e6 : i + 1 + 1 ≤ 4294967296 := by omega
        have e7 : (i : Int) + 1 < n := by omega
        simp (maxSteps := 1000000) [impl_ReadStore.l0, List.range_succ, bs_get, setAt, rsS, rsO, e7, h2, e5, e6, ha, encBoxO, encBox, ints, List.take_of_length_le])
    (fun acc c x ha => by
      obtain ⟨v, w, z, x⟩ := x
      simp only [Four.ex]
      by_cases hz : n = 0
      · subst hz
        simp (maxSteps := 1000000) [impl_ReadStore.l0, List.range_succ, bs_get, setAt, rsS, rsE, rsO]
      · simp (maxSteps := 1000000) [impl_ReadStore.l0, List.range_succ, bs_get, setAt, rsS, rsE, rsO, hz]) c1
  have hlen := crep_len (cbox u) n c1
  have hall := crep_all (fun c => cbox_rd u c) n c1
  generalize crep (cbox u) n c1 = q4 at *
  have h5 := impl_scan_nums.says k6 u hu2 20 q4.2
  have hgl := cnums_len u 20 q4.2
  simp only [Int.cast_ofNat_Int] at hgl
  generalize cnums u 20 q4.2 = q5 at *
  have h6 := impl_StoreOk.says k2 ⟨q1.1, q2.1, q4.1, q5.1⟩ (storeIn_rd (u := u) hu (by simp only [hlen]; omega) (by simp only; omega) hall)
  simp only [encStore, boxes, ints, irow] at h6
  generalize storeOk _ = sk at *
  replace hr := fun a b d => hr ⟨a, b, 0, d⟩
  cases ok
  · by_cases hz : n = 0
    · subst hz
      have hq : q4.1 = [] := List.eq_nil_of_length_eq_zero hlen
      simp [rsS, rsE, rsO] at hr
      simp (maxSteps := 1000000) [exB, impl_ReadStore.m, impl_ReadStore.b, List.range_succ, bs_get, setAt, h1, h2, h3, h4, h5, hr, hq, store0, irow, List.take_of_length_le]
    · simp [rsS, rsE, rsO, hz] at hr
      simp (maxSteps := 1000000) [exB, impl_ReadStore.m, impl_ReadStore.b, List.range_succ, bs_get, setAt, h1, h2, h3, h4, h5, hr, hlen, store0, irow, List.take_of_length_le]
  cases c2 : q5.2.2
  rotate_left
  · by_cases hz : n = 0
    · subst hz
      have hq : q4.1 = [] := List.eq_nil_of_length_eq_zero hlen
      simp [rsS, rsE, rsO] at hr
      simp (maxSteps := 1000000) [exB, impl_ReadStore.m, impl_ReadStore.b, List.range_succ, bs_get, setAt, h1, h2, h3, h4, h5, hr, hq, c2, store0, irow, List.take_of_length_le]
    · simp [rsS, rsE, rsO, hz] at hr
      simp (maxSteps := 1000000) [exB, impl_ReadStore.m, impl_ReadStore.b, List.range_succ, bs_get, setAt, h1, h2, h3, h4, h5, hr, hlen, c2, store0, irow, List.take_of_length_le]
  by_cases c3 : q5.2.1 = (u.length : Int)
  rotate_left
  · by_cases hz : n = 0
    · subst hz
      have hq : q4.1 = [] := List.eq_nil_of_length_eq_zero hlen
      simp [rsS, rsE, rsO] at hr
      simp (maxSteps := 1000000) [exB, impl_ReadStore.m, impl_ReadStore.b, List.range_succ, bs_get, setAt, h1, h2, h3, h4, h5, hr, hq, c2, c3, store0, irow, List.take_of_length_le]
    · simp [rsS, rsE, rsO, hz] at hr
      simp (maxSteps := 1000000) [exB, impl_ReadStore.m, impl_ReadStore.b, List.range_succ, bs_get, setAt, h1, h2, h3, h4, h5, hr, hlen, c2, c3, store0, irow, List.take_of_length_le]
  by_cases hz : n = 0
  · subst hz
    have hq : q4.1 = [] := List.eq_nil_of_length_eq_zero hlen
    simp only [hq, List.map_nil] at h6
    simp [rsS, rsE, rsO] at hr
    cases sk <;> simp (maxSteps := 1000000) [exB, impl_ReadStore.m, impl_ReadStore.b, List.range_succ, bs_get, setAt, h1, h2, h3, h4, h5, h6, hr, hq, c2, c3, store0, irow, List.take_of_length_le]
  · simp [rsS, rsE, rsO, hz] at hr
    cases sk <;> simp (maxSteps := 1000000) [exB, impl_ReadStore.m, impl_ReadStore.b, List.range_succ, bs_get, setAt, h1, h2, h3, h4, h5, h6, hr, hlen, c2, c3, store0, irow, List.take_of_length_le]
end Mx

namespace Mx
open Go
variable {M : Nat → Option Body}
/-- boxes, as long as each is right -/
def cbok (l : List UInt8) : Nat → Cur → Option (List Box × Cur)
  | 0, c => some ([], c)
  | d + 1, c => if (cbox l c).2.2 = false ∧ boxOk (cbox l c).1 = true then (cbok l d (cbox l c).2).map fun r => ((cbox l c).1 :: r.1, r.2) else none
theorem cbox_bad (l : List UInt8) (c : Cur) (h : c.2 = true) : (cbox l c).2.2 = true := (cbox_spans l c).bad h
theorem cbok_some {l : List UInt8} : ∀ {d : Nat} {c : Cur} {r : List Box × Cur}, cbok l d c = some r → crep (cbox l) d c = r ∧ (∀ m ∈ r.1, boxOk m = true) ∧ (c.2 = false → r.2.2 = false) ∧ r.1.length = d ∧ ∀ m ∈ r.1, BoxRd l m
  | 0, c, r, h => by simp [cbok] at h; subst h; simp [crep]
  | d + 1, c, r, h => by
    simp only [cbok] at h
    split at h
    · rename_i hc
      simp only [Option.map_eq_some_iff] at h
      obtain ⟨q, hq, rfl⟩ := h
      obtain ⟨h1, h2, h3, h4, h5⟩ := cbok_some hq
      refine ⟨by simp [crep, h1], ?_, fun _ => h3 hc.1, by simp [h4], ?_⟩
      · intro m hm
        rcases List.mem_cons.1 hm with rfl | hm
        · exact hc.2
        · exact h2 m hm
      · intro m hm
        rcases List.mem_cons.1 hm with rfl | hm
        · exact cbox_rd l c
        · exact h5 m hm
    · cases h
theorem cbok_none {l : List UInt8} : ∀ {d : Nat} {c : Cur}, cbok l d c = none → (crep (cbox l) d c).2.2 = true ∨ ∃ m ∈ (crep (cbox l) d c).1, boxOk m = false
  | 0, c, h => by simp [cbok] at h
  | d + 1, c, h => by
    simp only [cbok] at h
    split at h
    · rename_i hc
      simp only [Option.map_eq_none_iff] at h
      rcases cbok_none h with h1 | ⟨m, h1, h2⟩
      · exact .inl h1
      · exact .inr ⟨m, List.mem_cons_of_mem _ h1, h2⟩
    · rename_i hc
      cases h1 : (cbox l c).2.2
      · right
        refine ⟨_, List.mem_cons_self .., ?_⟩
        cases h2 : boxOk (cbox l c).1
        · rfl
        · exact (hc ⟨h1, h2⟩).elim
      · left; exact crep_bad (cbox_bad l) d _ h1
theorem storeOk_not {s : Store} (h : (5 < s.boxes.length ∨ 20 < s.gone.length) ∨ ∃ b ∈ s.boxes, boxOk b = false) : storeOk s = false := by
  cases hb : storeOk s
  · rfl
  · obtain ⟨h1, h2, h3, h4, h5, h6, _⟩ := storeOk_vars hb
    rcases h with (h | h) | ⟨m, hm, h⟩
    · omega
    · omega
    · rw [h6 m hm] at h; cases h
def sstore (u : List UInt8) (c : Cur) : Option (Store × Cur) :=
  let w := cvar u c
  let t := cvar u w.2
  let k := cvar u t.2
  (cbok u (Min.min k.1.toNat 6) k.2).map fun ms => (⟨w.1, t.1, ms.1, (cints u 20 ms.2).1⟩, (cints u 20 ms.2).2)
theorem sstore_key {u : List UInt8} {c : Cur} {r : Store × Cur} (hr : sstore u c = some r) : cstore u c = r ∨ (r.2.2 = true ∨ storeOk r.1 = false) ∧ (cstore u c).2.2 = true := by
  simp only [sstore, Option.map_eq_some_iff] at hr
  obtain ⟨ms, hms, rfl⟩ := hr
  obtain ⟨h1, h2, h3, h4, h5⟩ := cbok_some hms
  have hn := cvar_nn u (cvar u (cvar u c).2).2
  simp only [cstore, cmany]
  generalize cvar u (cvar u (cvar u c).2).2 = k at *
  by_cases hb : k.2.2 = true
  · right
    rw [if_pos (.inr hb)]
    have hms2 : ms.2.2 = true := by rw [← h1]; exact crep_bad (cbox_bad u) _ _ hb
    refine ⟨.inl ?_, ?_⟩
    · simp only [cints]; rw [cupto_bad _ _ (cvar_bad2 u _ hms2)]; exact cvar_bad2 u _ hms2
    · exact cnums_bad u _ _ (crep_bad (cbox_bad u) _ _ rfl)
  · by_cases ht : 5 < k.1
    · right
      rw [if_pos (.inl ht)]
      refine ⟨.inr (storeOk_not (.inl (.inl ?_))), cnums_bad u _ _ (crep_bad (cbox_bad u) _ _ rfl)⟩
      simp only [h4]; omega
    · rw [if_neg (by rw [not_or]; exact ⟨ht, hb⟩)]
      rw [show Min.min k.1.toNat 6 = k.1.toNat by omega] at h1
      rw [h1]
      rcases cints_nums u 20 ms.2 with ⟨q1, q2⟩ | q
      · right
        refine ⟨?_, q2⟩
        rcases q1 with q1 | q1
        · exact .inl q1
        · exact .inr (storeOk_not (.inl (.inr q1)))
      · left; rw [q]; rfl
theorem sstore_none {u : List UInt8} {c : Cur} (hs : sstore u c = none) : ¬ ((cstore u c).2.2 = false ∧ storeOk (cstore u c).1 = true) := by
  rintro ⟨h3, h4⟩
  simp only [sstore, Option.map_eq_none_iff] at hs
  have hk := cbok_none hs
  have hn := cvar_nn u (cvar u (cvar u c).2).2
  simp only [cstore, cmany] at h3 h4
  generalize cvar u (cvar u (cvar u c).2).2 = k at *
  by_cases hb : k.2.2 = true
  · rw [if_pos (.inr hb)] at h3
    rw [cnums_bad u _ _ (crep_bad (cbox_bad u) _ _ rfl)] at h3; cases h3
  · by_cases ht : 5 < k.1
    · rw [if_pos (.inl ht)] at h3
      rw [cnums_bad u _ _ (crep_bad (cbox_bad u) _ _ rfl)] at h3; cases h3
    · rw [if_neg (by rw [not_or]; exact ⟨ht, hb⟩)] at h3 h4
      rw [show Min.min k.1.toNat 6 = k.1.toNat by omega] at hk
      rcases hk with hk | ⟨m, hm, hk⟩
      · rw [cnums_bad u _ _ hk] at h3; cases h3
      · rw [storeOk_not (.inr ⟨m, hm, hk⟩)] at h4; cases h4
theorem cstore_spans (u : List UInt8) (c : Cur) : Spans u c (cstore u c).2 (storeT (cstore u c).1) := by
  have h1 := (((cvar_spans u c).trans (cvar_spans u _)).trans (cmany_spans u 5 (cvar u (cvar u c).2).2)).trans ((crep_spans (cbox_spans u) (cmany u 5 (cvar u (cvar u c).2).2).1.toNat (cmany u 5 (cvar u (cvar u c).2).2).2).trans (cnums_spans u 20 _))
  have hn := crep_len (cbox u) (cmany u 5 (cvar u (cvar u c).2).2).1.toNat (cmany u 5 (cvar u (cvar u c).2).2).2
  simp only [storeT, storeP, cstore, hn]
  simpa [varI] using h1
theorem cstore_bad (u : List UInt8) (c : Cur) (h : c.2 = true) : (cstore u c).2.2 = true := (cstore_spans u c).bad h
theorem varT_ne (n : Nat) : varT n ≠ [] := by
  unfold varT; simp
theorem unsealed_ok {l : List UInt8} (h : (unsealed l).2 = true) : sealed (unsealed l).1 = (l, true) := by
  unfold unsealed at h ⊢
  split at h
  · rename_i hc
    rw [if_pos hc]
    simp only [sealed]
    have h1 : (l.take (l.length - 4)).length = l.length - 4 := by simp
    rw [if_neg (by omega), ← hc.2.2, List.take_append_drop]
  · cases h
theorem sealed_inj {a b : List UInt8} {t : List UInt8} (h : sealed a = (t, true)) (k : sealed b = (t, true)) : a = b := by
  unfold sealed at h k
  split at h
  · cases h
  · split at k
    · cases k
    · simp only [Prod.mk.injEq, and_true] at h k
      rw [← k] at h
      have hl := congrArg List.length h
      simp only [List.length_append, four_len] at hl
      exact (List.append_inj h (by omega)).1
/-- the other side's answer -/
def readStoreS (l : List UInt8) : Store × Bool := match sstore (unsealed l).1 (0, !(unsealed l).2) with
  | none => (store0, false)
  | some r => if r.2.2 = false ∧ (storeText r.1).2 = true ∧ (storeText r.1).1 = l then (r.1, true) else (store0, false)
theorem readStore_s (l : List UInt8) : readStoreS l = readStore l := by
  unfold readStoreS readStore
  have hun := @unsealed_ok l
  generalize unsealed l = un at *
  obtain ⟨u, ok⟩ := un
  simp only at hun ⊢
  cases ok
  · simp only [Bool.not_false, Bool.false_eq_true, false_and, if_false]
    cases hs : sstore u (0, true) with
    | none => rfl
    | some r =>
      simp only
      rw [if_neg]
      rintro ⟨h1, h2, h3⟩
      rcases sstore_key hs with q | ⟨q1, q2⟩
      · have := cstore_bad u (0, true) rfl
        rw [q, h1] at this; cases this
      · rcases q1 with q1 | q1
        · rw [h1] at q1; cases q1
        · simp only [storeText, q1] at h2; cases h2
  · have hun := hun rfl
    simp only [Bool.not_true, true_and]
    cases hs : sstore u (0, false) with
    | none =>
      simp only
      rw [if_neg fun k => sstore_none hs ⟨k.1, k.2.2⟩]
    | some r =>
      simp only
      have hsp := cstore_spans u (0, false)
      rcases sstore_key hs with q | ⟨q1, q2⟩
      · rw [q] at hsp ⊢
        have hiff : (r.2.2 = false ∧ (storeText r.1).2 = true ∧ (storeText r.1).1 = l) ↔ (r.2.2 = false ∧ r.2.1 = (u.length : Int) ∧ storeOk r.1 = true) := by
          constructor
          · rintro ⟨h1, h2, h3⟩
            have hok : storeOk r.1 = true := by
              cases hk : storeOk r.1
              · simp only [storeText, hk] at h2; cases h2
              · rfl
            simp only [storeText, hok, if_true] at h2 h3
            have heq : storeT r.1 = u := sealed_inj (Prod.ext h3 h2) hun
            refine ⟨h1, ?_, hok⟩
            obtain ⟨_, hle, hx⟩ := hsp h1
            simp only at hle hx
            rcases hx with ⟨hx, _⟩ | ⟨_, hx2, hx3⟩
            · exfalso
              have : varT r.1.boxes.length = [] := by
                simp only [storeT, storeP, List.append_eq_nil_iff] at hx
                exact hx.1.2.2
              exact varT_ne _ this
            · rw [heq] at hx3
              have := congrArg List.length hx3
              simp at this
              omega
          · rintro ⟨h1, h2, h3⟩
            obtain ⟨_, hle, hx⟩ := hsp h1
            have heq : storeT r.1 = u := by
              simp only at hle hx
              rcases hx with ⟨hx, hx2⟩ | ⟨_, hx2, hx3⟩
              · exfalso
                have : varT r.1.boxes.length = [] := by
                  simp only [storeT, storeP, List.append_eq_nil_iff] at hx
                  exact hx.1.2.2
                exact varT_ne _ this
              · rw [← hx3, h2]; simp
            refine ⟨h1, ?_, ?_⟩ <;> simp [storeText, h3, heq, hun]
        by_cases hc : r.2.2 = false ∧ (storeText r.1).2 = true ∧ (storeText r.1).1 = l
        · rw [if_pos hc, if_pos (hiff.1 hc)]
        · rw [if_neg hc, if_neg fun k => hc (hiff.2 k)]
      · rw [if_neg, if_neg]
        · rintro ⟨h1, _⟩; rw [q2] at h1; cases h1
        · rintro ⟨h1, h2, h3⟩
          rcases q1 with q1 | q1
          · rw [h1] at q1; cases q1
          · simp only [storeText, q1] at h2; cases h2
end Mx

namespace Mx
open Go
variable {M : Nat → Option Body}
def ssO (w t : Int) (i : Nat) (acc : List Box) (u : List UInt8) (c : Cur) (x : Four) : List (Nat × Ob) := [(2, ⟨x.a, 4, true, true, [s3zero]⟩), (7, ⟨x.b, 4, true, true, [[I w, I t, if i = 0 then .nils 7 else .row 66 x.c 0 i, .nils 1]]⟩), (24, curO 2000208 u c)] ++ if i = 0 then [] else [(66, ⟨x.c, 7, true, false, acc.map encBox⟩)]
def ssS (l u : List UInt8) (w t : Int) (n i : Nat) (acc : List Box) (c : Cur) (x : Four) : St := { t := [(0, .c (S l)), (2, .c (.ptr 2 x.a 0 0)), (4, .c (S u)), (6, .c (.ptr 24 2000208 0 0)), (7, .c (.ptr 7 x.b 0 0)), (8, .c (I n)), (9, .c (I i))], o := ssO w t i acc u c x, n := x.d }
def ssE (l u : List UInt8) (w t : Int) (n i : Nat) (acc : List Box) (c : Cur) (x : Four) : St := { t := [(0, .c (S l)), (2, .c (.ptr 2 x.a 0 0)), (4, .c (S u)), (6, .c (.ptr 24 2000208 0 0)), (7, .c (.ptr 7 x.b 0 0)), (8, .c (I n)), (9, .c (I i)), (46, .c (.bool false))], o := ssO w t i acc u c x, n := x.d }
def ssF (l u : List UInt8) (w t : Int) (n : Nat) (q : Option (List Box × Cur)) (m : Four × List (Nat × Ob)) : Out × St := match q with
  | none => (.ret, { t := [(2, .c (.ptr 2 m.1.a 0 0)), (3, .c (.bool false))], o := (2, ⟨m.1.a, 4, true, true, [s3zero]⟩) :: m.2, n := m.1.d })
  | some r => (.exit 0, ssE l u w t n r.1.length r.1 r.2 m.1)
theorem ssF_ne (l u : List UInt8) (w t : Int) (n : Nat) (q : Option (List Box × Cur)) (m : Four × List (Nat × Ob)) : (ssF l u w t n q m).1 ≠ .normal := by cases q <;> simp [ssF]
theorem spec_ReadStore.loop (k5 : spec_ReadBox.k M) (l u : List UInt8) (hl : u.length ≤ 1048576) (w t : Int) (n D : Nat) (hD : Min.min n 6 = D) (c : Cur) (hc : 0 < D → c.2 = false) :
    ∃ g : Four → Four × List (Nat × Ob), ∀ x, loopN (exC (run M) (D + 1) spec_ReadStore.l0) (D + 1) (ssS l u w t n 0 [] c x) = some (ssF l u w t n (cbok u D c) (g x)) := by
  have := loop_all (f := exC (run M) (D + 1) spec_ReadStore.l0) (fun s : Nat × List Box × Cur => ssS l u w t n s.1 s.2.1 s.2.2) (fun s => s.1 ≤ D ∧ s.2.1.length = s.1 ∧ (s.1 < D → s.2.2.2 = false)) (fun s => D - s.1)
    (fun s => (cbok u (D - s.1) s.2.2).map fun r => (s.2.1 ++ r.1, r.2)) (ssF l u w t n) ?_ (D + 1) (0, [], c) ⟨Nat.zero_le _, rfl, hc⟩ (by simp)
  · simpa using this
  rintro ⟨i, acc, c⟩ x ⟨hi, ha, hc⟩
  simp only at hi ha hc
  by_cases hlt : i < D
  · have hc := hc hlt
    obtain ⟨ca, cb⟩ := c
    simp only at hc
    subst hc
    have h2 := spec_ReadBox.says k5 u hl ca
    have h3 : i < n := by omega
    have h4 : i ≤ 5 := by omega
    have hd : D - i = (D - (i + 1)) + 1 := by omega
    obtain ⟨xa, xb, xc, xd⟩ := x
    unfold readBox at h2
    by_cases hk : (cbox u (ca, false)).2.2 = false ∧ boxOk (cbox u (ca, false)).1 = true
    · left
      rw [if_pos hk] at h2
      refine ⟨(i + 1, acc ++ [(cbox u (ca, false)).1], (cbox u (ca, false)).2), ?_⟩
      have hcc : (cbox u (ca, false)).2 = ((cbox u (ca, false)).2.1, false) := Prod.ext rfl hk.1
      have hres : (cbok u (D - (i + 1)) (cbox u (ca, false)).2).map (fun r => ((acc ++ [(cbox u (ca, false)).1]) ++ r.1, r.2)) = (cbok u (D - i) (ca, false)).map fun r => (acc ++ r.1, r.2) := by
        rw [hd, cbok, if_pos hk, Option.map_map]
        congr 1
        funext r; simp
      simp only [hres, and_true]
      have hrun : ∃ y, exC (run M) (D + 1) spec_ReadStore.l0 (ssS l u w t n i acc (ca, false) ⟨xa, xb, xc, xd⟩) = some (.normal, ssS l u w t n (i + 1) (acc ++ [(cbox u (ca, false)).1]) (cbox u (ca, false)).2 y) := by
        rw [hcc]
        generalize cbox u (ca, false) = r at *
        simp only [Four.ex]
        cases i with
        | zero =>
          have : acc = [] := List.eq_nil_of_length_eq_zero ha
          subst this
          simp (maxSteps := 1000000) [spec_ReadStore.l0, List.range_succ, bs_get, setAt, ssS, ssO, h2, h3, h4, wrap_one, encBoxO, encBox, ints]
        | succ i =>
          have e5 : IntKind.i64.wrap ((i : Int) + 1 + 1) = (i : Int) + 1 + 1 := wrap_i64 (by omega) (by omega)
          have e6 : i + 1 + 1 ≤ 4294967296 := by omega
          have h3' : (i : Int) + 1 < n := by omega
          have h4' : (i : Int) + 1 ≤ 5 := by omega
          simp (maxSteps := 1000000) [spec_ReadStore.l0, List.range_succ, bs_get, setAt, ssS, ssO, h3', h4', h2, e5, e6, ha, encBoxO, encBox, ints, List.take_of_length_le]
      obtain ⟨y, hy⟩ := hrun
      exact ⟨y, hy, ⟨hlt, by simp [ha], fun _ => hk.1⟩, by omega⟩
    · right
      rw [if_neg hk] at h2
      rw [hd, cbok, if_neg hk]
      have hrun : ∃ z, exC (run M) (D + 1) spec_ReadStore.l0 (ssS l u w t n i acc (ca, false) ⟨xa, xb, xc, xd⟩) = some (ssF l u w t n none z) := by
        simp only [Prod.exists, Four.ex]
        cases i with
        | zero =>
          have : acc = [] := List.eq_nil_of_length_eq_zero ha
          subst this
          simp (maxSteps := 1000000) [spec_ReadStore.l0, List.range_succ, bs_get, setAt, ssS, ssO, ssF, h2, h3, h4, box0, irow]
        | succ i =>
          have h3' : (i : Int) + 1 < n := by omega
          have h4' : (i : Int) + 1 ≤ 5 := by omega
          simp (maxSteps := 1000000) [spec_ReadStore.l0, List.range_succ, bs_get, setAt, ssS, ssO, ssF, h3', h4', h2, ha, box0, irow]
      obtain ⟨z, hz⟩ := hrun
      exact ⟨z, hz, ssF_ne _ _ _ _ _ _ _⟩
  · have : i = D := by omega
    subst this
    right
    rw [Nat.sub_self]
    simp only [cbok, Option.map_some, List.append_nil]
    have hrun : ∃ z, exC (run M) (i + 1) spec_ReadStore.l0 (ssS l u w t n i acc c x) = some (ssF l u w t n (some (acc, c)) (z, [])) := by
      obtain ⟨xa, xb, xc, xd⟩ := x
      simp only [Four.ex]
      have hx : i = n ∨ i = 6 := by omega
      rcases hx with rfl | rfl
      · by_cases hz : i = 0
        · subst hz
          simp (maxSteps := 1000000) [spec_ReadStore.l0, List.range_succ, bs_get, setAt, ssS, ssE, ssF, ssO, ha]
        · simp (maxSteps := 1000000) [spec_ReadStore.l0, List.range_succ, bs_get, setAt, ssS, ssE, ssF, ssO, ha, hz]
      · by_cases h2 : (6 : Int) < n
        · simp (maxSteps := 1000000) [spec_ReadStore.l0, List.range_succ, bs_get, setAt, ssS, ssE, ssF, ssO, ha, h2]
        · simp (maxSteps := 1000000) [spec_ReadStore.l0, List.range_succ, bs_get, setAt, ssS, ssE, ssF, ssO, ha, h2]
    obtain ⟨z, hz⟩ := hrun
    exact ⟨(z, []), hz, ssF_ne _ _ _ _ _ _ _⟩
set_option maxHeartbeats 1000000 in
theorem spec_ReadStore.says (h : spec_ReadStore.k M) (l : List UInt8) (hl : l.length ≤ 1048576) :
    run M 75 [.c (S l)] [] = some (.tup [.a (encStoreO (readStore l).1), .c (.bool (readStore l).2)], []) := by
  obtain ⟨h0, k5, k1, k2, k4, k3⟩ := h
  rw [← readStore_s]
  have h1 := spec_Unsealed.says k3 l (by omega)
  have hu : (unsealed l).1.length ≤ 1048576 := by unfold unsealed; split <;> simp; omega
  unfold readStoreS
  generalize unsealed l = un at *
  obtain ⟨u, ok⟩ := un
  simp only at hu ⊢
  have hu2 : u.length ≤ 4611686018427387904 := by omega
  have h2 := spec_l05Var.at k2 u hu2 0 (!ok)
  have h3 := spec_l05Var.says k2 u hu2 (cvar u (0, !ok)).2
  have h4 := spec_l05Var.says k2 u hu2 (cvar u (cvar u (0, !ok)).2).2
  have e0 : sstore u (0, !ok) = (cbok u (Min.min (cvar u (cvar u (cvar u (0, !ok)).2).2).1.toNat 6) (cvar u (cvar u (cvar u (0, !ok)).2).2).2).map fun ms => (⟨(cvar u (0, !ok)).1, (cvar u (cvar u (0, !ok)).2).1, ms.1, (cints u 20 ms.2).1⟩, (cints u 20 ms.2).2) := rfl
  rw [e0]
  clear e0
  generalize cvar u (0, !ok) = q1 at *
  generalize cvar u q1.2 = q2 at *
  have hn := cvar_nn u q2.2
  have hz : (cvar u q2.2).2.2 = true → (cvar u q2.2).1 = 0 := by
    unfold cvar; split
    · intro _; rfl
    · intro h; cases h
  generalize cvar u q2.2 = q3 at *
  obtain ⟨n, c1⟩ := q3
  simp only at hn hz ⊢
  obtain ⟨n, rfl⟩ := Int.eq_ofNat_of_zero_le hn.1
  simp only [Int.toNat_natCast]
  obtain ⟨D, hD⟩ : ∃ D, Min.min n 6 = D := ⟨_, rfl⟩
  refine run_code (b := spec_ReadStore.m) h0 ⟨D + 1, ?_⟩
  obtain ⟨g, hr⟩ := spec_ReadStore.loop k5 l u hu q1.1 q2.1 n D hD c1 (fun hd => by
    cases hc : c1.2
    · rfl
    · have := hz hc; omega)
  rw [hD]
  replace hr := fun a b d => hr ⟨a, b, 0, d⟩
  cases hq : cbok u D c1 with
  | none =>
    simp only [hq] at hr
    simp [ssS, ssO, ssF] at hr
    simp only [Option.map_none]
    simp (maxSteps := 1000000) [exB, spec_ReadStore.m, spec_ReadStore.b, List.range_succ, bs_get, setAt, h1, h2, h3, h4, hr, store0, irow]
  | some r =>
    simp only [hq] at hr
    simp only [Option.map_some]
    obtain ⟨m1, m2, m3, m4, m5⟩ := cbok_some hq
    have h7 := spec_l10Ints.says k4 u hu2 20 (by omega) r.2
    simp only [Int.cast_ofNat_Int] at h7
    have hgl : (cints u 20 r.2).1.length ≤ 21 := by
      unfold cints
      exact Nat.le_trans (cupto_le _ _) (by omega)
    have h8 := spec_StoreText.says k1 ⟨q1.1, q2.1, r.1, (cints u 20 r.2).1⟩ (storeIn_rd (u := u) hu (by simp only [m4]; omega) (by simp only; omega) m5)
    simp only [encStore, boxes, ints, irow] at h8
    generalize cints u 20 r.2 = w at *
    generalize storeText _ = st at *
    obtain ⟨s1, s2⟩ := st
    by_cases hz : D = 0
    · have hr0 : r.1 = [] := List.eq_nil_of_length_eq_zero (by omega)
      subst hz
      simp [ssS, ssE, ssO, ssF, hr0] at hr
      simp only [hr0, List.map_nil] at h8
      cases c1 : w.2.2
      · cases s2
        · simp (maxSteps := 1000000) [exB, spec_ReadStore.m, spec_ReadStore.b, List.range_succ, bs_get, setAt, h1, h2, h3, h4, h7, h8, hr, hr0, c1, store0, irow, List.take_of_length_le]
        · by_cases c3 : s1 = l <;> simp (maxSteps := 1000000) [exB, spec_ReadStore.m, spec_ReadStore.b, List.range_succ, bs_get, setAt, h1, h2, h3, h4, h7, h8, hr, hr0, c1, c3, store0, irow, List.take_of_length_le]
      · simp (maxSteps := 1000000) [exB, spec_ReadStore.m, spec_ReadStore.b, List.range_succ, bs_get, setAt, h1, h2, h3, h4, h7, h8, hr, hr0, c1, store0, irow, List.take_of_length_le]
    · have hz' : ¬ r.1.length = 0 := by omega
      have hz'' : r.1 ≠ [] := fun e => hz' (by rw [e]; rfl)
      simp [ssS, ssE, ssO, ssF, hz''] at hr
      cases c1 : w.2.2
      · cases s2
        · simp (maxSteps := 1000000) [exB, spec_ReadStore.m, spec_ReadStore.b, List.range_succ, bs_get, setAt, h1, h2, h3, h4, h7, h8, hr, hz'', c1, store0, irow, List.take_of_length_le]
        · by_cases c3 : s1 = l <;> simp (maxSteps := 1000000) [exB, spec_ReadStore.m, spec_ReadStore.b, List.range_succ, bs_get, setAt, h1, h2, h3, h4, h7, h8, hr, hz'', c1, c3, store0, irow, List.take_of_length_le]
      · simp (maxSteps := 1000000) [exB, spec_ReadStore.m, spec_ReadStore.b, List.range_succ, bs_get, setAt, h1, h2, h3, h4, h7, h8, hr, hz'', c1, store0, irow, List.take_of_length_le]
end Mx

namespace Mx
open Go
theorem varI_len3 {n : Int} (h : n < 16384) : (varI n).length ≤ 3 := by
  have := varP_len 2 n.toNat (by omega)
  simp [varI, varT]; omega
theorem varI_len4 {n : Int} (h : n < 2097152) : (varI n).length ≤ 4 := by
  have := varP_len 3 n.toNat (by omega)
  simp [varI, varT]; omega
theorem varT_len3 {n : Nat} (h : n < 16384) : (varT n).length ≤ 3 := by
  have := varI_len3 (n := n) (by omega)
  simpa [varI] using this
theorem flagsOk_val {l : List Reg} (h : flagsOk l = true) : ∀ r ∈ l, r.val ≤ 1 ∧ r.time ≤ 100000 ∧ r.who ≤ 2 ∧ regOk r = true := by
  intro r hr
  simp only [flagsOk, Bool.and_eq_true, decide_eq_true_eq, Option.isNone_iff_eq_none, firstN_isNone] at h
  obtain ⟨i, hi, e⟩ := List.getElem_of_mem hr
  have := h.1 i hi
  rw [badFlag_at hi, e] at this
  simp at this
  have h2 := this.1
  simp only [regOk, stampOk, Bool.and_eq_true, inR_iff] at h2
  exact ⟨by omega, by omega, by omega, this.1⟩
theorem mailT_short {m : Mail} (h : mailOk m = true) : (mailT m).length ≤ 100 := by
  have h0 := h
  simp only [mailOk, Bool.and_eq_true, inR_iff, decide_eq_true_eq] at h
  obtain ⟨⟨⟨h1, h2⟩, h3⟩, h4⟩ := h
  have hf := (flagsOk_regs h3).1
  have := varI_len3 (n := m.gid) (by omega); have := varI_len3 (n := m.uid) (by omega)
  have h6 := texts_len regT m.flags 10 fun r hr => by
    have := flagsOk_val h3 r hr
    have := varI_len3 (n := r.val) (by omega); have := varI_len4 (n := r.time) (by omega); have := varI_len3 (n := r.who) (by omega)
    simp [regT, texts]; omega
  have h7 := varT_len3 (n := m.text.length) (by omega)
  rw [hf] at h6
  simp only [mailT, shortT, List.length_append]
  have : (texts varI [m.gid, m.uid]).length ≤ 6 := by simp [texts]; omega
  omega
theorem boxT_short {b : Box} (h : boxOk b = true) : (boxT b).length ≤ 1200 := by
  obtain ⟨v1, v2, v3, v4, v5, v6, v7, v8, v9⟩ := boxOk_vars h
  simp only [boxOk, Bool.and_eq_true, decide_eq_true_eq, inR_iff] at h
  obtain ⟨⟨⟨⟨⟨⟨h1, h2⟩, h3⟩, h4⟩, h5⟩, h6⟩, h7⟩ := h
  simp only [stampOk, Bool.and_eq_true, inR_iff] at h3
  have := varI_len3 (n := b.gid) (by omega); have := varI_len4 (n := b.time) (by omega); have := varI_len3 (n := b.who) (by omega); have := varI_len3 (n := b.next) (by omega)
  have := varT_len3 (n := b.name.length) (by omega); have := varT_len3 (n := b.mails.length) (by omega); have := varT_len3 (n := b.gone.length) (by omega)
  have hg := gidsOk_vars h6
  have := texts_len varI b.gone 3 fun n hn => varI_len3 (by have := hg.2 n hn; omega)
  have := texts_len mailT b.mails 100 fun m hm => mailT_short (v9 m hm)
  simp only [boxT, boxP, List.length_append]; omega
theorem storeT_short {s : Store} (h : storeOk s = true) : (storeT s).length ≤ 7000 := by
  obtain ⟨v1, v2, v3, v4, v5, v6, v7, v8⟩ := storeOk_vars h
  simp only [storeOk, Bool.and_eq_true, decide_eq_true_eq, inR_iff] at h
  obtain ⟨⟨⟨⟨h1, h2⟩, h3⟩, h4⟩, h5⟩ := h
  have := varI_len3 (n := s.who) (by omega); have := varI_len4 (n := s.time) (by omega)
  have := varT_len3 (n := s.boxes.length) (by omega); have := varT_len3 (n := s.gone.length) (by omega)
  have hg := gidsOk_vars h4
  have := texts_len varI s.gone 3 fun n hn => varI_len3 (by have := hg.2 n hn; omega)
  have := texts_len boxT s.boxes 1200 fun m hm => boxT_short (v6 m hm)
  simp only [storeT, storeP, List.length_append]; omega
/-- what is read of a text is right, and has that text -/
theorem readStore_ok {l : List UInt8} (h : (readStore l).2 = true) : storeOk (readStore l).1 = true ∧ sealed (storeT (readStore l).1) = (l, true) := by
  rw [← readStore_s] at h ⊢
  unfold readStoreS at h ⊢
  cases hs : sstore (unsealed l).1 (0, !(unsealed l).2) with
  | none => rw [hs] at h; cases h
  | some r =>
    rw [hs] at h
    simp only at h ⊢
    split at h
    · rename_i hc
      rw [if_pos hc]
      obtain ⟨h1, h2, h3⟩ := hc
      cases hk : storeOk r.1
      · simp only [storeText, hk] at h2; cases h2
      · simp only [storeText, hk, if_true] at h2 h3
        exact ⟨rfl, Prod.ext h3 h2⟩
    · cases h
end Mx

namespace Mx
open Go
variable {M : Nat → Option Body}
theorem impl_boxText.in (h : impl_boxText.k M) {b : Box} (c : boxOk b = true) : run M 123 [.a [I b.gid, S b.name, I b.time, I b.who, I b.next, mails b.mails, ints b.gone]] [] = some (.c (S (boxT b)), []) := impl_boxText.says h b c
def txS (s : Store) (i : Nat) (t : List UInt8) (x : Nat × Nat) : St := { t := [(1, .c (.ptr 1 x.1 0 0)), (4, .c (S t)), (20, .c (boxes s.boxes)), (21, .c (I s.boxes.length)), (22, .c (I i))], o := [(1, ⟨x.1, 4, true, true, [encStore s]⟩)], n := x.2 }
def txE (s : Store) (t : List UInt8) (x : Nat × Nat) : St := { t := [(1, .c (.ptr 1 x.1 0 0)), (4, .c (S t)), (20, .c (boxes s.boxes)), (21, .c (I s.boxes.length)), (22, .c (I s.boxes.length)), (23, .c (.bool false))], o := [(1, ⟨x.1, 4, true, true, [encStore s]⟩)], n := x.2 }
set_option maxHeartbeats 1000000 in
theorem impl_StoreText.says (h : impl_StoreText.k M) (s : Store) (hs : StoreIn s) : run M 61 [.a (encStore s)] [] = some (.tup [.c (S (storeText s).1), .c (.bool (storeText s).2)], []) := by
  obtain ⟨h0, kse, kb, ko, kv⟩ := h
  have h1 := impl_StoreOk.says ko s hs
  refine run_code (b := impl_StoreText.m) h0 ⟨s.boxes.length + 1, ?_⟩
  simp only [encStore] at h1
  unfold storeText
  cases c : storeOk s
  · rw [c] at h1
    simp (maxSteps := 1000000) [exB, impl_StoreText.m, impl_StoreText.b, List.range_succ, bs_get, setAt, h1]
  rw [c] at h1
  obtain ⟨v1, v2, v3, v4, v5, v6, _⟩ := storeOk_vars c
  have g1 := impl_vars.says kv [s.who, s.time, (s.boxes.length : Int)] (by simp) (by simp; exact ⟨v1, v2, by unfold isVar; omega⟩)
  have g2 := impl_vars.says kv [(s.gone.length : Int)] (by simp) (by simp; unfold isVar; omega)
  have g3 := impl_vars.says kv s.gone (by omega) v5
  have l1 := isVar_len v1; have l2 := isVar_len v2
  have l8 := varT_len (n := s.gone.length) (by omega)
  have l9 := texts_len varI s.gone 10 fun n hn => isVar_len (v5 n hn)
  have l10 := texts_len boxT s.boxes 11000 fun b hb => boxT_len (v6 b hb)
  have hp := storeP_len c
  obtain ⟨g, hr⟩ := text_loop (f := exC (run M) (s.boxes.length + 1) impl_StoreText.l0) s.boxes boxT 11000 30 (fun b hb => boxT_len (v6 b hb)) (txS s) 0 (txE s)
    (fun i hi t x ht => by
      obtain ⟨v, x⟩ := x
      have e5 := wrap1 (i := i) (by omega)
      have hx := v6 _ (List.getElem_mem hi)
      have h6 := impl_boxText.in kb hx
      have h7 := boxT_len hx
      simp only [Prod.exists]
      have e6 := str_add t (boxT s.boxes[i]) (by omega)
      simp (maxSteps := 1000000) [impl_StoreText.l0, List.range_succ, bs_get, setAt, txS, hi, h6, e5, e6, encBox])
    (fun t x => by
      obtain ⟨v, x⟩ := x
      simp only [Prod.exists]
      simp (maxSteps := 1000000) [impl_StoreText.l0, List.range_succ, bs_get, setAt, txS, txE]) (storeP s) hp
  have q1 : texts varI [s.who, s.time, (s.boxes.length : Int)] = storeP s := by simp [texts, storeP, varI]
  have q2 : texts varI [(s.gone.length : Int)] = varT s.gone.length := by simp [texts, varI]
  rw [q1] at g1
  rw [q2] at g2
  have e8 := str_add (storeP s ++ texts boxT s.boxes) (varT s.gone.length) (by simp; omega)
  have e9 := str_add (storeP s ++ texts boxT s.boxes ++ varT s.gone.length) (texts varI s.gone) (by simp; omega)
  have hse := impl_Sealed.says kse (storeT s) (by simp only [storeT, List.length_append]; omega)
  simp only [storeT] at hse ⊢
  simp only [List.append_assoc] at e8 e9 hse
  simp only [ints, irow, List.map_cons, List.map_nil] at g1 g2
  simp [txS, txE] at hr
  generalize storeP s = p at *
  generalize texts boxT s.boxes = q at *
  generalize texts varI s.gone = r at *
  simp (maxSteps := 1000000) [exB, impl_StoreText.m, impl_StoreText.b, List.range_succ, bs_get, setAt, hr, h1, g1, g2, g3, e8, e9, hse, List.take_of_length_le]
def sameStore (a b : Store) : Bool := decide ((storeText a).1 = (storeText b).1)
theorem sealed_len {l : List UInt8} (h : (sealed l).2 = true) : 4 ≤ (sealed l).1.length := by
  unfold sealed at h ⊢
  split at h
  · cases h
  · rename_i c; rw [if_neg c]; simp [four_len]
theorem sealed_no {l : List UInt8} (h : (sealed l).2 = false) : (sealed l).1 = [] := by
  unfold sealed at h ⊢
  split at h
  · rename_i c; rw [if_pos c]
  · cases h
theorem storeText_iff (s : Store) : (storeText s).2 = true ↔ (storeText s).1 ≠ [] := by
  unfold storeText
  split
  · constructor
    · intro h e
      have := sealed_len h
      rw [e] at this; simp at this
    · intro h
      cases hs : (sealed (storeT s)).2
      · exact (h (sealed_no hs)).elim
      · rfl
  · simp
theorem spec_SameStore.says (h : spec_SameStore.k M) (a b : Store) (ha : StoreIn a) (hb : StoreIn b) : run M 62 [.a (encStore a), .a (encStore b)] [] = some (.c (.bool (sameStore a b)), []) := by
  obtain ⟨h0, k1⟩ := h
  have h1 := spec_StoreText.says k1 a ha
  have h2 := spec_StoreText.says k1 b hb
  have i1 := storeText_iff a
  have i2 := storeText_iff b
  refine run_code (b := spec_SameStore.m) h0 ⟨0, ?_⟩
  unfold sameStore
  simp only [encStore] at h1 h2
  generalize storeText a = x at *
  generalize storeText b = y at *
  obtain ⟨x, p⟩ := x
  obtain ⟨y, q⟩ := y
  simp only at i1 i2
  by_cases c : x = y
  · subst c
    have : p = q := by
      cases p <;> cases q <;> simp_all
    subst this
    simp (maxSteps := 1000000) [exB, spec_SameStore.m, spec_SameStore.b, List.range_succ, bs_get, setAt, h1, h2]
  · cases p <;> cases q <;> simp (maxSteps := 1000000) [exB, spec_SameStore.m, spec_SameStore.b, List.range_succ, bs_get, setAt, h1, h2, c]
theorem impl_SameStore.says (h : impl_SameStore.k M) (a b : Store) (ha : StoreIn a) (hb : StoreIn b) : run M 63 [.a (encStore a), .a (encStore b)] [] = some (.c (.bool (sameStore a b)), []) := by
  obtain ⟨h0, k1⟩ := h
  have h1 := impl_StoreText.says k1 a ha
  have h2 := impl_StoreText.says k1 b hb
  refine run_code (b := impl_SameStore.m) h0 ⟨0, ?_⟩
  unfold sameStore
  simp only [encStore] at h1 h2
  simp (maxSteps := 1000000) [exB, impl_SameStore.m, impl_SameStore.b, List.range_succ, bs_get, setAt, h1, h2]
end Mx

namespace Mx
open Go
/-- a reader reads what stands there -/
def Rd {α : Type} (l : List UInt8) (f : Cur → α × Cur) (t : List UInt8) (x : α) : Prop :=
  ∀ p q, l = p ++ (t ++ q) → f ((p.length : Int), false) = (x, ((p.length + t.length : Nat) : Int), false)
theorem varT_low {m : Nat} (h : ¬ m > 127) : varT m = [UInt8.ofNat m] := by simp [varT, varP_low h]
theorem varT_high {m : Nat} (h : m > 127) : varT m = UInt8.ofNat (m % 128 + 128) :: varT (m / 128) := by simp [varT, varP_high h]
theorem rvGo_back (n : Nat) (hn : n ≤ 1000000000) (p q : List UInt8) : ∀ (d k m acc : Nat) (pre : List UInt8), 0 < d → m < 128 ^ d → pre.length = k → acc + m * pw k = n → varT n = pre ++ varT m →
    rvGo (p ++ (varT n ++ q)) p.length d k acc = some (n, p.length + (varT n).length, true)
  | 0, k, m, acc, pre, h0, _, _, _, _ => by omega
  | d + 1, k, m, acc, pre, _, hm, hp, ha, ht => by
    by_cases c : m > 127
    · have hv := varT_high c
      have hl : p.length + k < (p ++ (varT n ++ q)).length := by rw [ht, hv]; simp; omega
      have hb : (p ++ (varT n ++ q))[p.length + k] = UInt8.ofNat (m % 128 + 128) := by
        have e : p ++ (varT n ++ q) = (p ++ pre) ++ (UInt8.ofNat (m % 128 + 128) :: (varT (m / 128) ++ q)) := by rw [ht, hv]; simp
        have := get_row (p ++ pre) (UInt8.ofNat (m % 128 + 128)) (varT (m / 128) ++ q) (p.length + k) (by simp [hp])
        rw [← e, List.getElem?_eq_getElem hl] at this
        exact Option.some.inj this
      have hn8 : (UInt8.ofNat (m % 128 + 128)).toNat = m % 128 + 128 := by rw [UInt8.toNat_ofNat']; omega
      rw [rvGo, dif_pos hl, hb, hn8, if_neg (by omega)]
      have hd : 0 < d := by
        rcases Nat.eq_zero_or_pos d with z | z
        · subst z; simp at hm; omega
        · exact z
      have e1 : (m % 128 + 128) % 128 = m % 128 := by omega
      rw [e1]
      refine rvGo_back n hn p q d (k + 1) (m / 128) _ (pre ++ [UInt8.ofNat (m % 128 + 128)]) hd ?_ (by simp [hp]) ?_ (by rw [ht, hv]; simp)
      · rw [Nat.div_lt_iff_lt_mul (by omega), ← Nat.pow_succ]; exact hm
      · have e2 : m / 128 * (pw k * 128) = m / 128 * 128 * pw k := by rw [Nat.mul_comm (pw k) 128, ← Nat.mul_assoc]
        rw [pw_succ, e2, Nat.add_assoc, ← Nat.add_mul]
        have e3 : m % 128 + m / 128 * 128 = m := by omega
        rw [e3]; exact ha
    · have hv := varT_low c
      have hl : p.length + k < (p ++ (varT n ++ q)).length := by rw [ht, hv]; simp; omega
      have hb : (p ++ (varT n ++ q))[p.length + k] = UInt8.ofNat m := by
        have e : p ++ (varT n ++ q) = (p ++ pre) ++ (UInt8.ofNat m :: q) := by rw [ht, hv]; simp
        have := get_row (p ++ pre) (UInt8.ofNat m) q (p.length + k) (by simp [hp])
        rw [← e, List.getElem?_eq_getElem hl] at this
        exact Option.some.inj this
      have hn8 : (UInt8.ofNat m).toNat = m := by rw [UInt8.toNat_ofNat']; omega
      have hlen : (varT n).length = k + 1 := by rw [ht, hv]; simp [hp]
      rw [rvGo, dif_pos hl, hb, hn8, if_pos (by omega)]
      have e1 : acc + m % 128 * pw k = n := by rw [Nat.mod_eq_of_lt (by omega)]; exact ha
      have e2 : ((p ++ (varT n ++ q)).drop p.length).take (k + 1) = varT n := by
        rw [List.drop_left, ← hlen, List.take_left]
      rw [e1, e2, if_pos ⟨hn, rfl⟩, hlen]
      rfl
theorem readVar_back {n : Nat} (hn : n ≤ 1000000000) (p q : List UInt8) : readVar (p ++ (varT n ++ q)) p.length = (n, p.length + (varT n).length, true) := by
  unfold readVar
  rw [if_pos ⟨by omega, by simp; omega⟩]
  have := rvGo_back n hn p q 5 0 n 0 [] (by omega) (Nat.lt_of_le_of_lt hn (by decide)) rfl (by simp [pw]) (by simp)
  simp only [Int.toNat_natCast, this, Option.getD_some]
theorem rd_var {l : List UInt8} {n : Int} (h : isVar n) : Rd l (cvar l) (varI n) n := by
  intro p q e
  have h1 := h.1
  have h2 := h.2
  have := readVar_back (n := n.toNat) (by omega) p q
  unfold cvar varI
  subst e
  simp only [varI] at this ⊢
  simp only [this, Bool.false_eq_true, Bool.true_eq_false, or_self, if_false]
  rw [show ((n.toNat : Nat) : Int) = n by omega]
theorem rd_short {l : List UInt8} {s : List UInt8} (h : s.length ≤ 20000) : Rd l (cshort l) (shortT s) s := by
  intro p q e
  have hv := readVar_back (n := s.length) (by omega) p (s ++ q)
  have e2 : l = p ++ (varT s.length ++ (s ++ q)) := by rw [e, shortT]; simp
  have hr : readShort l p.length = (s, p.length + (shortT s).length, true) := by
    unfold readShort
    rw [e2, hv]
    have h1 : s.length + (p.length + (varT s.length).length) ≤ (p ++ (varT s.length ++ (s ++ q))).length := by simp; omega
    rw [if_pos ⟨rfl, h, h1⟩]
    have h2 : (p ++ (varT s.length ++ (s ++ q))).drop (p.length + (varT s.length).length) = s ++ q := by
      rw [← List.append_assoc, List.drop_left' (by simp)]
    simp only [h2, List.take_left, shortT, List.length_append, Prod.mk.injEq, and_true, true_and]
    omega
  unfold cshort
  simp only [hr, Bool.false_eq_true, Bool.true_eq_false, or_self, if_false]
theorem rd_stamp {l : List UInt8} {a b : Int} (ha : isVar a) (hb : isVar b) : Rd l (cstamp l) (varI a ++ varI b) (a, b) := by
  intro p q e
  have h1 := rd_var ha (l := l) p (varI b ++ q) (by rw [e]; simp)
  have h2 := rd_var hb (l := l) (p ++ varI a) q (by rw [e]; simp)
  simp only [List.length_append] at h2
  unfold cstamp
  simp only [h1, h2, List.length_append, Nat.add_assoc]
theorem rd_many {l : List UInt8} {n : Int} {most : Int} (h : isVar n) (hm : n ≤ most) : Rd l (cmany l most) (varI n) n := by
  intro p q e
  have h1 := rd_var h (l := l) p q e
  unfold cmany
  rw [h1]
  simp only [Bool.false_eq_true, or_false]
  rw [if_neg (by omega)]
theorem rd_rep {α : Type} {l : List UInt8} {f : Cur → α × Cur} {t : α → List UInt8} : ∀ {xs : List α}, (∀ x ∈ xs, Rd l f (t x) x) → Rd l (crep f xs.length) (texts t xs) xs
  | [], _ => fun p q e => by simp [crep, texts]
  | x :: xs, h => fun p q e => by
    have h1 := h x (List.mem_cons_self ..) p (texts t xs ++ q) (by rw [e]; simp [texts])
    have h2 := rd_rep (fun y hy => h y (List.mem_cons_of_mem _ hy)) (p ++ t x) q (by rw [e]; simp [texts])
    simp only [List.length_append] at h2
    simp only [List.length_cons, crep, h1, h2]
    simp [texts, Nat.add_assoc]
theorem rd_nums {l : List UInt8} {xs : List Int} {most : Int} (h : ∀ x ∈ xs, isVar x) (hm : (xs.length : Int) ≤ most) (hl : xs.length ≤ 1000000000) : Rd l (cnums l most) (varT xs.length ++ texts varI xs) xs := by
  intro p q e
  have h1 := rd_many (l := l) (n := xs.length) (most := most) ⟨by omega, by omega⟩ hm p (texts varI xs ++ q) (by rw [e]; simp [varI])
  have h2 := rd_rep (l := l) (f := cvar l) (t := varI) (fun x hx => rd_var (h x hx)) (p ++ varT xs.length) q (by rw [e]; simp)
  simp only [List.length_append] at h2
  unfold cnums
  simp only [varI, Int.toNat_natCast] at h1
  rw [h1]
  simp only [Int.toNat_natCast, h2, List.length_append, Nat.add_assoc]
theorem rd_reg {l : List UInt8} {r : Reg} (h : regOk r = true) : Rd l (creg l) (regT r) r := by
  intro p q e
  obtain ⟨v1, v2, v3⟩ := regOk_vars h
  have h1 := rd_var v1 (l := l) p ((varI r.time ++ varI r.who) ++ q) (by rw [e]; simp [regT, texts])
  have h2 := rd_stamp v2 v3 (l := l) (p ++ varI r.val) q (by rw [e]; simp [regT, texts])
  simp only [List.length_append] at h2
  unfold creg
  simp only [h1, h2, regT, texts, List.flatMap_cons, List.flatMap_nil, List.append_nil, List.length_append, Nat.add_assoc]
theorem rd_mail {l : List UInt8} {m : Mail} (h : mailOk m = true) : Rd l (cmail l) (mailT m) m := by
  intro p q e
  obtain ⟨v1, v2, v3, v4, v5⟩ := mailOk_vars h
  have e' : l = p ++ (varI m.gid ++ (varI m.uid ++ (texts regT m.flags ++ (shortT m.text ++ q)))) := by rw [e]; simp [mailT, texts]
  have h1 := rd_var v1 (l := l) p (varI m.uid ++ (texts regT m.flags ++ (shortT m.text ++ q))) e'
  have h2 := rd_var v2 (l := l) (p ++ varI m.gid) (texts regT m.flags ++ (shortT m.text ++ q)) (by rw [e']; simp)
  have h3 := rd_rep (l := l) (f := creg l) (t := regT) (fun r hr => rd_reg (v4 r hr)) (p ++ varI m.gid ++ varI m.uid) (shortT m.text ++ q) (by rw [e']; simp)
  have h4 := rd_short (l := l) (s := m.text) (by omega) (p ++ varI m.gid ++ varI m.uid ++ texts regT m.flags) q (by rw [e']; simp)
  rw [v3] at h3
  simp only [List.length_append] at h2 h3 h4
  unfold cmail
  simp only [h1, h2, h3, h4]
  simp [mailT, texts, Nat.add_assoc]
theorem rd_box {l : List UInt8} {b : Box} (h : boxOk b = true) : Rd l (cbox l) (boxT b) b := by
  intro p q e
  obtain ⟨v1, v2, v3, v4, v5, v6, v7, v8, v9⟩ := boxOk_vars h
  have e' : l = p ++ (varI b.gid ++ (shortT b.name ++ ((varI b.time ++ varI b.who) ++ (varI b.next ++ (varI b.mails.length ++ (texts mailT b.mails ++ ((varT b.gone.length ++ texts varI b.gone) ++ q))))))) := by rw [e]; simp [boxT, boxP, shortT, varI]
  have h1 := rd_var v1 (l := l) p _ e'
  have h2 := rd_short (l := l) (s := b.name) (by omega) (p ++ varI b.gid) ((varI b.time ++ varI b.who) ++ (varI b.next ++ (varI b.mails.length ++ (texts mailT b.mails ++ ((varT b.gone.length ++ texts varI b.gone) ++ q))))) (by rw [e']; simp only [List.append_assoc])
  have h3 := rd_stamp v3 v4 (l := l) (p ++ varI b.gid ++ shortT b.name) (varI b.next ++ (varI b.mails.length ++ (texts mailT b.mails ++ ((varT b.gone.length ++ texts varI b.gone) ++ q)))) (by rw [e']; simp only [List.append_assoc])
  have h4 := rd_var v5 (l := l) (p ++ varI b.gid ++ shortT b.name ++ (varI b.time ++ varI b.who)) (varI b.mails.length ++ (texts mailT b.mails ++ ((varT b.gone.length ++ texts varI b.gone) ++ q))) (by rw [e']; simp only [List.append_assoc])
  have h5 := rd_many (l := l) (n := b.mails.length) (most := 10) ⟨by omega, by omega⟩ (by omega) (p ++ varI b.gid ++ shortT b.name ++ (varI b.time ++ varI b.who) ++ varI b.next) (texts mailT b.mails ++ ((varT b.gone.length ++ texts varI b.gone) ++ q)) (by rw [e']; simp only [List.append_assoc])
  have h6 := rd_rep (l := l) (f := cmail l) (t := mailT) (fun m hm => rd_mail (v9 m hm)) (p ++ varI b.gid ++ shortT b.name ++ (varI b.time ++ varI b.who) ++ varI b.next ++ varI b.mails.length) ((varT b.gone.length ++ texts varI b.gone) ++ q) (by rw [e']; simp only [List.append_assoc])
  have h7 := rd_nums (l := l) (most := 40) v8 (by omega) (by omega) (p ++ varI b.gid ++ shortT b.name ++ (varI b.time ++ varI b.who) ++ varI b.next ++ varI b.mails.length ++ texts mailT b.mails) q (by rw [e']; simp only [List.append_assoc])
  simp only [List.length_append] at h2 h3 h4 h5 h6 h7
  have hl : (boxT b).length = (varI b.gid).length + (shortT b.name).length + ((varI b.time).length + (varI b.who).length) + (varI b.next).length + (varI b.mails.length).length + (texts mailT b.mails).length + ((varT b.gone.length).length + (texts varI b.gone).length) := by
    simp only [boxT, boxP, shortT, varI, List.length_append, Int.toNat_natCast]; omega
  unfold cbox cboxH
  simp only [h1, h2, h3, h4, h5, h6, h7, Int.toNat_natCast]
  rw [hl]
  simp only [Nat.add_assoc]
theorem rd_store {l : List UInt8} {s : Store} (h : storeOk s = true) : Rd l (cstore l) (storeT s) s := by
  intro p q e
  obtain ⟨v1, v2, v3, v4, v5, v6, v7⟩ := storeOk_vars h
  have e' : l = p ++ (varI s.who ++ (varI s.time ++ (varI s.boxes.length ++ (texts boxT s.boxes ++ ((varT s.gone.length ++ texts varI s.gone) ++ q))))) := by rw [e]; simp [storeT, storeP, varI]
  have h1 := rd_var v1 (l := l) p _ e'
  have h2 := rd_var v2 (l := l) (p ++ varI s.who) (varI s.boxes.length ++ (texts boxT s.boxes ++ ((varT s.gone.length ++ texts varI s.gone) ++ q))) (by rw [e']; simp only [List.append_assoc])
  have h3 := rd_many (l := l) (n := s.boxes.length) (most := 5) ⟨by omega, by omega⟩ (by omega) (p ++ varI s.who ++ varI s.time) (texts boxT s.boxes ++ ((varT s.gone.length ++ texts varI s.gone) ++ q)) (by rw [e']; simp only [List.append_assoc])
  have h4 := rd_rep (l := l) (f := cbox l) (t := boxT) (fun b hb => rd_box (v6 b hb)) (p ++ varI s.who ++ varI s.time ++ varI s.boxes.length) ((varT s.gone.length ++ texts varI s.gone) ++ q) (by rw [e']; simp only [List.append_assoc])
  have h5 := rd_nums (l := l) (most := 20) v5 (by omega) (by omega) (p ++ varI s.who ++ varI s.time ++ varI s.boxes.length ++ texts boxT s.boxes) q (by rw [e']; simp only [List.append_assoc])
  simp only [List.length_append] at h2 h3 h4 h5
  have hl : (storeT s).length = (varI s.who).length + (varI s.time).length + (varI s.boxes.length).length + (texts boxT s.boxes).length + ((varT s.gone.length).length + (texts varI s.gone).length) := by
    simp only [storeT, storeP, varI, List.length_append, Int.toNat_natCast]; omega
  unfold cstore
  simp only [h1, h2, h3, h4, h5, Int.toNat_natCast]
  rw [hl]
  simp only [Nat.add_assoc]
theorem unsealed_sealed {l : List UInt8} (h : l.length ≤ 20000) : unsealed (l ++ four (sumOf l)) = (l, true) := by
  have hf := four_len (sumOf l)
  have e1 : (l ++ four (sumOf l)).length - 4 = l.length := by simp [hf]
  unfold unsealed
  rw [e1, List.take_left, List.drop_left, if_pos ⟨by simp [hf], by simp [hf]; omega, rfl⟩]
theorem storeText_ok {s : Store} (h : storeOk s = true) : storeText s = (storeT s ++ four (sumOf (storeT s)), true) := by
  have := storeT_short h
  unfold storeText
  rw [if_pos h, sealed, if_neg (by omega)]
theorem storeText_snd (s : Store) : (storeText s).2 = storeOk s := by
  cases h : storeOk s with
  | true => rw [storeText_ok h]
  | false => unfold storeText; rw [h]; rfl
theorem readStore_back {s : Store} (h : storeOk s = true) : readStore (storeText s).1 = (s, true) := by
  have hs := storeT_short h
  rw [storeText_ok h]
  unfold readStore
  simp only [unsealed_sealed (l := storeT s) (by omega)]
  have := rd_store h (l := storeT s) [] [] (by simp)
  simp only [List.length_nil, Nat.zero_add] at this
  have e0 : ((0 : Nat) : Int) = 0 := rfl
  rw [e0] at this
  rw [this]
  simp [h]
theorem readBox_back {b : Box} (h : boxOk b = true) (p q : List UInt8) : readBox (p ++ (boxT b ++ q)) p.length = (b, ((p.length + (boxT b).length : Nat) : Int), true) := by
  have := rd_box h (l := p ++ (boxT b ++ q)) p q rfl
  unfold readBox
  rw [this]
  simp [h]
/-- what is read is said again -/
theorem readStore_again {l : List UInt8} (h : (readStore l).2 = true) : storeText (readStore l).1 = (l, true) := by
  obtain ⟨h1, h2⟩ := readStore_ok h
  unfold storeText
  rw [if_pos h1]; exact h2
end Mx

namespace Mx
open Go
def keepR (kt ko : List Nat) (n : Nat) : Option (List (Nat × V) × List (Nat × Ob)) → Option (Out × St)
  | none => none
  | some r => some (.normal, { t := keep kt r.1, o := keep ko r.2, n := n })
theorem keepR_some (kt ko : List Nat) (n : Nat) (t : List (Nat × V)) (o : List (Nat × Ob)) : keepR kt ko n (some (t, o)) = some (.normal, { t := keep kt t, o := keep ko o, n := n }) := rfl
theorem keepR_none (kt ko : List Nat) (n : Nat) : keepR kt ko n none = none := rfl
theorem exC_reg (cf : CallF) (k : Nat) (s : St) (ops : List Mop) (kt ko : List Nat) : exC cf k (.reg ops kt ko) s = keepR kt ko (s.n + 16 * ops.length) (steps cf s.n 0 ops s.t s.o) := by
  simp only [exC]; cases steps cf s.n 0 ops s.t s.o <;> rfl
theorem exC_regd (cf : CallF) (k : Nat) (s : St) (ops : List Mop) (anc : List (List Nat)) (kt ko : List Nat) : exC cf k (.regd ops anc kt ko) s = keepR kt ko (s.n + 16 * ops.length) (stepsD cf s.n 0 ops anc s.t s.o []) := by
  simp only [exC]; cases stepsD cf s.n 0 ops anc s.t s.o [] <;> rfl
theorem exC_skip (cf : CallF) (k : Nat) (s : St) : exC cf k .skip s = some (.normal, s) := rfl
theorem exC_seq (cf : CallF) (k : Nat) (s : St) (a b : C) : exC cf k (.seq a b) s = match exC cf k a s with | some (.normal, s') => exC cf k b s' | r => r := rfl
theorem exC_cond (cf : CallF) (k : Nat) (s : St) (c : Nat) (a b : C) : exC cf k (.cond (.t c) a b) s = match lookB s.t (.t c) with | some true => exC cf k a s | some false => exC cf k b s | none => none := rfl
theorem exC_block (cf : CallF) (k : Nat) (s : St) (id : Nat) (a : C) : exC cf k (.block id a) s = match exC cf k a s with | some (.exit id', s') => some (if id' = id then (.normal, s') else (.exit id', s')) | r => r := rfl
theorem exC_loop (cf : CallF) (k : Nat) (s : St) (a : C) : exC cf k (.loop a) s = loopN (exC cf k a) k s := rfl
theorem exC_exit (cf : CallF) (k : Nat) (s : St) (id : Nat) : exC cf k (.exit id) s = some (.exit id, s) := rfl
theorem exC_ret (cf : CallF) (k : Nat) (s : St) : exC cf k .ret s = some (.ret, s) := rfl
theorem exC_shut (cf : CallF) (k : Nat) (s : St) (ids : List Nat) (a : C) : exC cf k (.shut ids a) s = exC cf k a { s with o := sealOb ids s.o } := rfl
theorem lr_has (n i : Nat) : (lr n).contains i = decide (i < n) := by
  simp only [lr, List.contains_eq_mem, List.mem_range]
theorem lr_has2 (n i : Nat) (l : List Nat) : (lr n ++ l).contains i = (decide (i < n) || l.contains i) := by
  simp only [lr, List.contains_eq_mem, List.mem_append, List.mem_range, Bool.decide_or]
def idsB : Option Ob → List Nat
  | some b => if b.bx then b.rows.flatMap fun r => r.flatMap idsT else []
  | none => []
def idsN (o : List (Nat × Ob)) : List Nat → List Nat
  | [] => []
  | id :: r => idsB (get o id) ++ idsN o r
def idsKL (o : List (Nat × Ob)) : List T → List Nat
  | [] => []
  | t :: ts => (idsT t ++ idsN o (idsT t)) ++ idsKL o ts
def idsG (o : List (Nat × Ob)) : Option V → List Nat
  | some (.c t) => idsT t ++ idsN o (idsT t)
  | some (.a ts) => idsKL o ts
  | _ => []
def touchL (t : List (Nat × V)) (o : List (Nat × Ob)) : List Nat → List Nat
  | [] => []
  | x :: xs => idsG o (get t x) ++ touchL t o xs
theorem idsN_eq (o : List (Nat × Ob)) : ∀ l, l.flatMap (idsO o) = idsN o l
  | [] => rfl
  | x :: l => by
    rw [List.flatMap_cons, idsN_eq o l, idsN]
    congr 1
theorem idsKL_eq (o : List (Nat × Ob)) : ∀ ts : List T, (ts.flatMap fun t => idsT t ++ (idsT t).flatMap (idsO o)) = idsKL o ts
  | [] => rfl
  | t :: ts => by rw [List.flatMap_cons, idsKL_eq o ts, idsKL, idsN_eq]
theorem touchL_eq (t : List (Nat × V)) (o : List (Nat × Ob)) : ∀ l : List Nat, (l.flatMap fun x => match get t x with | some v => idsV o v | none => []) = touchL t o l
  | [] => rfl
  | x :: l => by
    rw [List.flatMap_cons, touchL_eq t o l, touchL]
    congr 1
    cases h : get t x with
    | none => rfl
    | some v =>
      cases v with
      | c t => simp only [idsV, idsG, idsN_eq]
      | a ts => simp only [idsV, idsG, idsKL_eq]
      | _ => rfl
theorem touch_eq (t : List (Nat × V)) (o : List (Nat × Ob)) (m : MO) : touch t o m = touchL t o m.eyes := touchL_eq t o _
attribute [simp] idsB idsN idsKL idsG touchL
def stepK (t : List (Nat × V)) (o : List (Nat × Ob)) (d : Option Nat) : Done → Option (List (Nat × V) × List (Nat × Ob))
  | none => none
  | some r => some (setT t d r.1, r.2 ++ o)
theorem stepK_some (t : List (Nat × V)) (o : List (Nat × Ob)) (d : Option Nat) (v : V) (u : List (Nat × Ob)) : stepK t o d (some (v, u)) = some (setT t d v, u ++ o) := rfl
theorem stepK_none (t : List (Nat × V)) (o : List (Nat × Ob)) (d : Option Nat) : stepK t o d none = none := rfl
theorem step_eq (cf : CallF) (n i : Nat) (m : Mop) (t : List (Nat × V)) (o : List (Nat × Ob)) : step cf n i m t o = match wanted t m.guard with
    | some true => stepK t o m.dst (act cf (n + 16 * i) (m.dst.getD 0) t o m.op)
    | some false => some (setT t m.dst .undef, o)
    | none => none := by
  unfold step
  cases wanted t m.guard with
  | none => rfl
  | some b => cases b with
    | false => rfl
    | true => simp only []; cases act cf (n + 16 * i) (m.dst.getD 0) t o m.op <;> rfl
def stepH (t : List (Nat × V)) (d : Option Nat) : Done → Option (List (Nat × V))
  | none => none
  | some r => some (setT t d r.1)
theorem stepH_some (t : List (Nat × V)) (d : Option Nat) (r : V × List (Nat × Ob)) : stepH t d (some r) = some (setT t d r.1) := rfl
theorem stepH_none (t : List (Nat × V)) (d : Option Nat) : stepH t d none = none := rfl
theorem stepE_eq (cf : CallF) (n i : Nat) (m : Mop) (t : List (Nat × V)) (o : List (Nat × Ob)) : stepE cf n i m t o = match wanted t m.guard with
    | some true => stepH t m.dst (actE cf (n + 16 * i) (m.dst.getD 0) t o m.op)
    | some false => some (setT t m.dst .undef)
    | none => none := by
  unfold stepE
  cases wanted t m.guard with
  | none => rfl
  | some b => cases b with
    | false => rfl
    | true => simp only []; cases actE cf (n + 16 * i) (m.dst.getD 0) t o m.op <;> rfl
def verO : Option Ob → Nat
  | none => 0
  | some b => b.ver
def lendK (o : List (Nat × Ob)) : List (Nat × Nat × Ob) → List (Nat × Nat × Nat)
  | [] => []
  | l :: r => (l.1, l.2.1, verO (get o l.2.1)) :: lendK o r
theorem lendK_eq (o : List (Nat × Ob)) : ∀ ls : List (Nat × Nat × Ob), (ls.map fun l => (l.1, l.2.1, (get o l.2.1).elim 0 (·.ver))) = lendK o ls
  | [] => rfl
  | l :: r => by
    rw [List.map_cons, lendK_eq o r, lendK]
    congr 2
    cases get o l.2.1 <;> rfl
theorem doCall_eq (cf : CallF) (n : Nat) (o : List (Nat × Ob)) (f : Nat) (vals : List V) (lend : List Nat) (thaw : List (Nat × Nat)) : doCall cf n o f vals lend thaw =
  match args o lend 0 vals with
  | none => none
  | some (as, ls, b) =>
    if vals.length ≤ 1000 ∧ (ls.map (·.2.1)).all (fun id => !b.contains id) ∧ (ls.map (·.2.1)).Nodup then
      match cf f as (ls.map fun l => (l.1, l.2.2)) with
      | none => none
      | some (res, after) =>
        match lentBack n o after ls, back n (lendK o ls) thaw res with
        | some ups, some (v, ups') => if b.isEmpty ∨ (res.flat ∧ ups.all fun u => u.2.rows.all (·.all T.scalar)) then some (v, ups ++ ups') else none
        | _, _ => none
    else none := by
  unfold doCall
  cases args o lend 0 vals with
  | none => rfl
  | some r => obtain ⟨as, ls, b⟩ := r; simp only [lendK_eq]; rfl
attribute [simp] verO lendK
attribute [simp] keepR_some keepR_none exC_reg exC_regd exC_skip exC_seq exC_cond exC_block exC_loop exC_exit exC_ret exC_shut lr_has lr_has2 touch_eq stepK_some stepK_none step_eq stepH_some stepH_none stepE_eq doCall_eq
end Mx

namespace Mx
open Go
variable {M : Nat → Option Body}
theorem storeText_len (s : Store) : (storeText s).1.length ≤ 20004 := by
  unfold storeText
  split
  · unfold sealed; split
    · simp
    · simp [four]; omega
  · simp
theorem unsealed_len (l : List UInt8) : (unsealed l).1.length ≤ 20000 := by
  unfold unsealed; split
  · simp; omega
  · simp
theorem sealed_len2 (l : List UInt8) : (sealed l).1.length ≤ 20004 := by
  unfold sealed; split
  · simp
  · simp [four]; omega
theorem bT_len (b : Box) : (if boxOk b = true then boxT b else []).length ≤ 11000 := by
  split
  · rename_i h; exact boxT_len h
  · simp
theorem impl_ReadBox.says (h : impl_ReadBox.k M) (l : List UInt8) (hl : l.length ≤ 1048576) (a : Int) :
    run M 53 [.c (S l), .c (I a)] [] = some (.tup [.a (encBoxO (readBox l a).1), .c (I (readBox l a).2.1), .c (.bool (readBox l a).2.2)], []) := by
  obtain ⟨h0, ko, kb⟩ := h
  have h1 := impl_scan_box.says kb l (by omega) (a, false)
  have hb := (cbox_rd l (a, false)).is hl
  have h2 := impl_BoxOk.says ko (cbox l (a, false)).1 hb.m (by have := hb.g; omega) (by have := hb.n; omega) hb.f
  refine run_code (b := impl_ReadBox.m) h0 ⟨0, ?_⟩
  simp only [readBox]
  generalize cbox l (a, false) = q at *
  obtain ⟨b, e, w⟩ := q
  have e11 : (b.mails.map encMail).length = b.mails.length := by simp
  have e12 := irow_length b.gone
  simp only [curO] at h1 h2 ⊢
  cases w with
  | true =>
    rw [if_neg (by simp)]
    simp only [encBox, encBoxO, mails, ints] at h1 h2 ⊢
    generalize b.mails.map encMail = rm at *
    generalize irow b.gone = rbg at *
    simp (maxSteps := 1000000) [exB, impl_ReadBox.m, impl_ReadBox.b, List.range_succ, bs_get, setAt, h1, e11, e12, box0, irow_nil, List.take_of_length_le]
  | false =>
    cases ho : boxOk b with
    | false =>
      rw [if_neg (by simp)]
      rw [ho] at h2
      simp only [encBox, encBoxO, mails, ints] at h1 h2 ⊢
      generalize b.mails.map encMail = rm at *
      generalize irow b.gone = rbg at *
      simp (maxSteps := 1000000) [exB, impl_ReadBox.m, impl_ReadBox.b, List.range_succ, bs_get, setAt, h1, h2, e11, e12, box0, irow_nil, List.take_of_length_le]
    | true =>
      rw [if_pos ⟨rfl, rfl⟩]
      rw [ho] at h2
      simp only [encBox, encBoxO, mails, ints] at h1 h2 ⊢
      generalize b.mails.map encMail = rm at *
      generalize irow b.gone = rbg at *
      simp (maxSteps := 1000000) [exB, impl_ReadBox.m, impl_ReadBox.b, List.range_succ, bs_get, setAt, h1, h2, e11, e12, List.take_of_length_le]
theorem spec_DrawStoreText.says (h : spec_DrawStoreText.k M) {R : List (List T)} (hR : Bytes R) :
    ∃ s : Store, WildS s ∧ run M 416 [.c (.sl false 1 R)] [] = some (.a (encStore s), []) := by
  obtain ⟨h0, k1, k2⟩ := h
  obtain ⟨q0, h1⟩ := spec_l01New.says k1 hR
  obtain ⟨s, i', q', ho, hi', h2⟩ := spec_l07Any.says k2 hR 0 q0 (Nat.zero_le _)
  have e0 : ((0 : Nat) : Int) = 0 := rfl
  simp only [curD, e0] at h2
  refine ⟨s, ho, run_code (b := spec_DrawStoreText.m) h0 ⟨0, ?_⟩⟩
  simp only [encStore, encStoreO, boxes, ints] at h2 ⊢
  generalize s.boxes.map encBox = ra at *
  generalize irow s.gone = ga at *
  simp (maxSteps := 1000000) [exB, spec_DrawStoreText.m, spec_DrawStoreText.b, List.range_succ, bs_get, setAt, h1, h2, List.take_of_length_le]
theorem spec_DrawBoxText.says (h : spec_DrawBoxText.k M) {R : List (List T)} (hR : Bytes R) :
    ∃ b : Box, BoxIn b ∧ run M 418 [.c (.sl false 1 R)] [] = some (.a (encBox b), []) := by
  obtain ⟨h0, k1, k2⟩ := h
  obtain ⟨q0, h1⟩ := spec_l01New.says k1 hR
  obtain ⟨b, i', q', ⟨⟨ho, _⟩, _⟩, hi', h2⟩ := spec_l06Any.wild k2 hR 0 q0 (Nat.zero_le _)
  have e0 : ((0 : Nat) : Int) = 0 := rfl
  simp only [curD, e0] at h2
  refine ⟨b, ho, run_code (b := spec_DrawBoxText.m) h0 ⟨0, ?_⟩⟩
  simp only [encBox, encBoxO, mails, ints] at h2 ⊢
  generalize b.mails.map encMail = ra at *
  generalize irow b.gone = ga at *
  simp (maxSteps := 1000000) [exB, spec_DrawBoxText.m, spec_DrawBoxText.b, List.range_succ, bs_get, setAt, h1, h2, List.take_of_length_le]
set_option maxHeartbeats 1000000 in
theorem spec_DrawReadStore.says (h : spec_DrawReadStore.k M) {R : List (List T)} (hR : Bytes R) :
    ∃ u : List UInt8, u.length ≤ 20004 ∧ run M 417 [.c (.sl false 1 R)] [] = some (.c (S u), []) := by
  obtain ⟨h0, kt, kse, k1, kb, kun, ka, ksp⟩ := h
  obtain ⟨q0, h1⟩ := spec_l01New.says k1 hR
  obtain ⟨x, i1, q1, hx, hi1, h2⟩ := spec_l01Below.says kb hR 0 q0 (Nat.zero_le _) 3 (by omega) (by omega)
  obtain ⟨s, i2, q2, hs, hi2, h3⟩ := spec_l07Any.says ka hR i1 q1 hi1
  have h4 := spec_StoreText.says kt s hs.t.in_
  have l1 := storeText_len s
  generalize storeText s = t at *
  obtain ⟨t, o⟩ := t
  simp only at h4 l1
  have h5 := spec_Unsealed.says kun t (by omega)
  have l2 := unsealed_len t
  generalize unsealed t = u at *
  obtain ⟨u, p⟩ := u
  simp only at h5 l2
  have e0 : ((0 : Nat) : Int) = 0 := rfl
  simp only [e0, Int.cast_ofNat_Int] at h1 h2
  simp only [encStore, encStoreO, boxes, ints] at h3 h4
  generalize s.boxes.map encBox = ra at *
  generalize irow s.gone = ga at *
  by_cases c0 : x = 0
  · subst c0
    have e1 : ((0 : Nat) : Int) = 0 := rfl
    simp only [e1] at h2
    cases p
    · refine ⟨t, by omega, run_code (b := spec_DrawReadStore.m) h0 ⟨0, ?_⟩⟩
      simp only [curD, e0] at h2 h3
      simp (maxSteps := 1000000) [exB, spec_DrawReadStore.m, spec_DrawReadStore.b, List.range_succ, bs_get, setAt, h1, h2, h3, h4, h5]
    · obtain ⟨v, i3, q3, hv, hi3, h6⟩ := spec_l02Spoilt.says ksp hR i2 q2 hi2 u (by omega)
      have h7 := spec_Sealed.says kse v (by omega)
      have l3 := sealed_len2 v
      generalize sealed v = w at *
      obtain ⟨w, z⟩ := w
      simp only at h7 l3
      refine ⟨w, by omega, run_code (b := spec_DrawReadStore.m) h0 ⟨0, ?_⟩⟩
      simp only [curD, e0] at h2 h3 h6
      simp (maxSteps := 1000000) [exB, spec_DrawReadStore.m, spec_DrawReadStore.b, List.range_succ, bs_get, setAt, h1, h2, h3, h4, h5, h6, h7]
  · have d0 : ¬ (x : Int) = 0 := by omega
    refine ⟨t, by omega, run_code (b := spec_DrawReadStore.m) h0 ⟨0, ?_⟩⟩
    simp only [curD, e0] at h2 h3
    simp (maxSteps := 1000000) [exB, spec_DrawReadStore.m, spec_DrawReadStore.b, List.range_succ, bs_get, setAt, h1, h2, h3, h4, c0, d0]
set_option maxHeartbeats 1000000 in
theorem spec_DrawReadBox.says (h : spec_DrawReadBox.k M) {R : List (List T)} (hR : Bytes R) :
    ∃ (u : List UInt8) (a : Int), u.length ≤ 20004 ∧ run M 419 [.c (.sl false 1 R)] [] = some (.tup [.c (S u), .c (I a)], []) := by
  obtain ⟨h0, kt, k1, kb, ka, ksp⟩ := h
  obtain ⟨q0, h1⟩ := spec_l01New.says k1 hR
  obtain ⟨x, i1, q1, hx, hi1, h2⟩ := spec_l01Below.says kb hR 0 q0 (Nat.zero_le _) 4 (by omega) (by omega)
  obtain ⟨b, i2, q2, ⟨⟨hb, _⟩, _⟩, hi2, h3⟩ := spec_l06Any.wild ka hR i1 q1 hi1
  have h4 := spec_BoxText.says kt b hb.m (by have := hb.g; omega) (by have := hb.n; omega) hb.f
  have l1 := bT_len b
  generalize (if boxOk b = true then boxT b else []) = t at *
  generalize boxOk b = o at *
  have e0 : ((0 : Nat) : Int) = 0 := rfl
  simp only [e0, Int.cast_ofNat_Int] at h1 h2
  simp only [encBox, encBoxO, mails, ints] at h3 h4
  generalize b.mails.map encMail = ra at *
  generalize irow b.gone = ga at *
  by_cases c0 : x = 0
  · subst c0
    simp only [e0] at h2
    obtain ⟨v, i3, q3, hv, hi3, h6⟩ := spec_l02Spoilt.says ksp hR i2 q2 hi2 t (by omega)
    refine ⟨v, 0, by omega, run_code (b := spec_DrawReadBox.m) h0 ⟨0, ?_⟩⟩
    simp only [curD, e0] at h2 h3 h6
    simp (maxSteps := 1000000) [exB, spec_DrawReadBox.m, spec_DrawReadBox.b, List.range_succ, bs_get, setAt, h1, h2, h3, h4, h6]
  have d0 : ¬ (x : Int) = 0 := by omega
  by_cases c1 : x = 1
  · subst c1
    have e1 : ((1 : Nat) : Int) = 1 := rfl
    simp only [e1] at h2
    refine ⟨[120] ++ t, 1, by simp; omega, run_code (b := spec_DrawReadBox.m) h0 ⟨0, ?_⟩⟩
    simp only [curD, e0] at h2 h3
    simp (maxSteps := 1000000) (disch := (first | omega | (simp; done) | (simp; omega))) [exB, spec_DrawReadBox.m, spec_DrawReadBox.b, List.range_succ, bs_get, List.take_of_length_le, setAt, str_add, h1, h2, h3, h4, e0]
  · have d1 : ¬ (x : Int) = 1 := by omega
    refine ⟨t ++ [109, 111, 114, 101], 0, by simp; omega, run_code (b := spec_DrawReadBox.m) h0 ⟨0, ?_⟩⟩
    simp only [curD, e0] at h2 h3
    simp (maxSteps := 1000000) (disch := (first | omega | (simp; done) | (simp; omega))) [exB, spec_DrawReadBox.m, spec_DrawReadBox.b, List.range_succ, bs_get, List.take_of_length_le, setAt, str_add, h1, h2, h3, h4, c0, d0, c1, d1]
set_option maxHeartbeats 1000000 in
theorem spec_DrawSameStore.says (h : spec_DrawSameStore.k M) {R : List (List T)} (hR : Bytes R) :
    ∃ a b : Store, (StoreIn a ∧ StoreIn b) ∧ run M 420 [.c (.sl false 1 R)] [] = some (.tup [.a (encStore a), .a (encStore b)], []) := by
  obtain ⟨h0, k1, ko, kc, ka⟩ := h
  obtain ⟨q0, h1⟩ := spec_l01New.says k1 hR
  obtain ⟨a, i1, q1, ha, hi1, h2⟩ := spec_l07Any.says ka hR 0 q0 (Nat.zero_le _)
  obtain ⟨o, i2, q2, hi2, h3⟩ := spec_l01Once.says ko hR i1 q1 hi1 2 (by omega) (by omega)
  have h4 := spec_l07Copy.says kc a ha.t.in_
  obtain ⟨b, i3, q3, hb, hi3, h5⟩ := spec_l07Any.says ka hR i2 q2 hi2
  have e0 : ((0 : Nat) : Int) = 0 := rfl
  simp only [curD, e0, Int.cast_ofNat_Int] at h1 h2 h3 h5
  simp only [encStore, encStoreO, boxes, ints] at h2 h4 h5 ⊢
  cases o
  · refine ⟨a, b, ⟨ha.t.in_, hb.t.in_⟩, run_code (b := spec_DrawSameStore.m) h0 ⟨0, ?_⟩⟩
    generalize a.boxes.map encBox = ra at *
    generalize irow a.gone = ga at *
    generalize b.boxes.map encBox = rb at *
    generalize irow b.gone = gb at *
    simp (maxSteps := 1000000) [exB, spec_DrawSameStore.m, spec_DrawSameStore.b, List.range_succ, bs_get, setAt, h1, h2, h3, h5, List.take_of_length_le]
  · refine ⟨a, a, ⟨ha.t.in_, ha.t.in_⟩, run_code (b := spec_DrawSameStore.m) h0 ⟨0, ?_⟩⟩
    generalize a.boxes.map encBox = ra at *
    generalize irow a.gone = ga at *
    simp (maxSteps := 1000000) [exB, spec_DrawSameStore.m, spec_DrawSameStore.b, List.range_succ, bs_get, setAt, h1, h2, h3, h4, List.take_of_length_le]
end Mx

namespace Mx
open Go
attribute [-simp] exC step stepE touch idsV idsO doCall
variable {M : Nat → Option Body}
theorem readStore_in (l : List UInt8) : StoreIn (readStore l).1 := by
  cases h : (readStore l).2 with
  | true => exact (ok_store (readStore_ok h).1).in_
  | false =>
    have : (readStore l).1 = store0 := by
      unfold readStore at h ⊢
      split
      · rename_i c; rw [if_pos c] at h; cases h
      · rfl
    rw [this]; exact ⟨by simp [store0], by simp [store0], by simp [store0], by simp [store0]⟩
theorem readBox_in (l : List UInt8) (a : Int) (hl : l.length ≤ 1048576) : BoxIn (readBox l a).1 := by
  unfold readBox
  split
  · exact (cbox_rd l (a, false)).is hl
  · exact ⟨by simp [box0], by simp [box0], by simp [box0], by simp [box0]⟩
theorem sameAll_self (s : Store) : sameAll s s = true := by simp [sameAll, alike]
set_option maxHeartbeats 8000000 in
set_option maxRecDepth 100000 in
theorem laws_FnTexts.says (h : laws_FnTexts.k M) (R : List (List T)) (hl : R.length ≤ 9223372036854775807) (hr : ∀ (i : Nat) (r : List T), R[i]? = some r → ∃ n : Int, r = [.int .u8 n]) :
    run M 396 [.c (.sl false 1 R)] [] = some (.c (.bool true), []) := by
  obtain ⟨h0, kbt, kbig, ksrb, kirb, kist, ksss, kiss, ksb, ksrs, kirs, ksbo, ksso, kd1, kd2, kd3, kd4, kd5, ksa⟩ := h
  have hbig := laws_big.says kbig R hl
  refine run_code (b := laws_FnTexts.m) h0 ⟨0, ?_⟩
  by_cases cb : 1048576 < R.length
  · rw [decide_eq_true cb] at hbig
    simp (maxSteps := 1000000) [exB, laws_FnTexts.m, laws_FnTexts.b, List.range_succ, bs_get, setAt, hbig]
  rw [decide_eq_false cb] at hbig
  have hR : Bytes R := ⟨by omega, hr⟩
  obtain ⟨s, hs, h1⟩ := spec_DrawStoreText.says kd1 hR
  have h2 := impl_StoreText.says kist s hs.t.in_
  have l1 := storeText_len s
  have h3 := impl_ReadStore.says kirs (storeText s).1 (by omega)
  obtain ⟨u, hu, h4⟩ := spec_DrawReadStore.says kd2 hR
  have h5 := impl_ReadStore.says kirs u (by omega)
  have h6 := spec_ReadStore.says ksrs u (by omega)
  have h7 := impl_StoreText.says kist (readStore u).1 (readStore_in u)
  obtain ⟨b, hb, h8⟩ := spec_DrawBoxText.says kd3 hR
  have h9 := impl_BoxText.says kbt b hb.m (by have := hb.g; omega) (by have := hb.n; omega) hb.f
  have l2 := bT_len b
  have h10 := impl_ReadBox.says kirb (120 :: ((if boxOk b = true then boxT b else []) ++ [121])) (by simp; omega) 1
  obtain ⟨w, at', hw, h11⟩ := spec_DrawReadBox.says kd4 hR
  have h12 := impl_ReadBox.says kirb w (by omega) at'
  have h13 := spec_ReadBox.says ksrb w (by omega) at'
  obtain ⟨p, q, ⟨hp, hq⟩, h14⟩ := spec_DrawSameStore.says kd5 hR
  have h15 := spec_StoreOk.says ksso s hs.t.in_
  have h16 := laws_sameAll.says ksa s s ⟨hs.t.in_.b, hs.t.in_.g, fun b hb => ⟨(hs.t.in_.i b hb).m, (hs.t.in_.i b hb).g, (hs.t.in_.i b hb).f⟩⟩
  rw [sameAll_self] at h16
  have h17 := spec_BoxOk.says ksbo b hb.m (by have := hb.g; omega) (by have := hb.n; omega) hb.f
  have h18 := laws_sameBox.self ksb b hb
  have h19 := laws_sameBox.self ksb (readBox w at').1 (readBox_in w at' (by omega))
  have h20 := impl_SameStore.says kiss p q hp hq
  have h21 := spec_SameStore.says ksss p q hp hq
  -- the store's text
  have a1 : storeOk s = true → readStore (storeText s).1 = (s, true) := readStore_back
  have a2 := storeText_snd s
  -- the text's store
  have a3 : (readStore u).2 = true → storeText (readStore u).1 = (u, true) := readStore_again
  -- the box's text
  have a4 : boxOk b = true → readBox (120 :: ((if boxOk b = true then boxT b else []) ++ [121])) 1 = (b, 1 + (((if boxOk b = true then boxT b else []).length : Nat) : Int), true) := fun hk => by
    have := readBox_back hk [120] [121]
    rw [if_pos hk]
    simp only [List.length_cons, List.length_nil] at this
    refine Eq.trans this ?_
    simp
  generalize (if boxOk b = true then boxT b else []) = v at *
  generalize readBox (120 :: (v ++ [121])) 1 = rb1 at *
  generalize readBox w at' = rb2 at *
  generalize readStore (storeText s).1 = rs1 at *
  generalize storeText s = st1 at *
  generalize storeText (readStore u).1 = st2 at *
  generalize readStore u = rs2 at *
  obtain ⟨st1, o1⟩ := st1
  obtain ⟨st2, o2⟩ := st2
  obtain ⟨x1, y1⟩ := rs1
  obtain ⟨x2, y2⟩ := rs2
  obtain ⟨b1, e1, g1⟩ := rb1
  obtain ⟨b2, e2, g2⟩ := rb2
  simp only at h2 h3 h5 h6 h7 h9 h10 h12 h13 h19 a1 a2 a3 a4 l1
  subst a2
  generalize sameStore p q = sm at *
  clear hs hb hp hq hu hw
  have lv : v.length ≤ 4611686018427387904 := by omega
  have lv1 : v.length + 1 ≤ 4611686018427387904 := by omega
  have lv2 : v.length + 1 + 1 ≤ 4611686018427387904 := by omega
  have e5 := wrap1 (i := v.length) (by omega)
  have e6 : IntKind.i64.wrap (1 + (v.length : Int)) = 1 + (v.length : Int) := wrap_i64 (by omega) (by omega)
  clear l2
  cases hA : storeOk s <;> cases y2 <;> cases hC : boxOk b
  · rw [hA] at h2 h15
    rw [hC] at h9 h17
    clear a1 a3 a4
    simp only [encStore, encStoreO, encBox, encBoxO, boxes, mails, ints] at h1 h2 h3 h5 h6 h7 h8 h9 h10 h12 h13 h14 h15 h16 h17 h18 h19 h20 h21
    try generalize s.boxes.map encBox = t0 at *
    try generalize irow s.gone = t1 at *
    try generalize x1.boxes.map encBox = t2 at *
    try generalize irow x1.gone = t3 at *
    try generalize x2.boxes.map encBox = t4 at *
    try generalize irow x2.gone = t5 at *
    try generalize p.boxes.map encBox = t6 at *
    try generalize irow p.gone = t7 at *
    try generalize q.boxes.map encBox = t8 at *
    try generalize irow q.gone = t9 at *
    try generalize b.mails.map encMail = u0 at *
    try generalize irow b.gone = u1 at *
    try generalize b1.mails.map encMail = u2 at *
    try generalize irow b1.gone = u3 at *
    try generalize b2.mails.map encMail = u4 at *
    try generalize irow b2.gone = u5 at *
    simp (maxSteps := 1000000) (disch := (first | omega | (simp; done) | (simp; omega))) [exB, laws_FnTexts.m, laws_FnTexts.b, bs_get, List.take_of_length_le, setAt, str_add, laws_FnTexts.fin, hbig, h1, h2, h3, h4, h5, h6, h7, h8, h9, h10, h11, h12, h13, h14, h15, h16, h17, h18, h19, h20, h21, e5, e6, lv, lv1, lv2, List.take_of_length_le]
  · rw [hA] at h2 h15
    rw [hC] at h9 h17
    obtain ⟨rfl, rfl, rfl⟩ : b1 = b ∧ e1 = 1 + (v.length : Int) ∧ g1 = true := by simpa using a4 hC
    clear a1 a3 a4
    simp only [encStore, encStoreO, encBox, encBoxO, boxes, mails, ints] at h1 h2 h3 h5 h6 h7 h8 h9 h10 h12 h13 h14 h15 h16 h17 h18 h19 h20 h21
    try generalize s.boxes.map encBox = t0 at *
    try generalize irow s.gone = t1 at *
    try generalize x1.boxes.map encBox = t2 at *
    try generalize irow x1.gone = t3 at *
    try generalize x2.boxes.map encBox = t4 at *
    try generalize irow x2.gone = t5 at *
    try generalize p.boxes.map encBox = t6 at *
    try generalize irow p.gone = t7 at *
    try generalize q.boxes.map encBox = t8 at *
    try generalize irow q.gone = t9 at *
    try generalize b.mails.map encMail = u0 at *
    try generalize irow b.gone = u1 at *
    try generalize b1.mails.map encMail = u2 at *
    try generalize irow b1.gone = u3 at *
    try generalize b2.mails.map encMail = u4 at *
    try generalize irow b2.gone = u5 at *
    simp (maxSteps := 1000000) (disch := (first | omega | (simp; done) | (simp; omega))) [exB, laws_FnTexts.m, laws_FnTexts.b, bs_get, List.take_of_length_le, setAt, str_add, laws_FnTexts.fin, hbig, h1, h2, h3, h4, h5, h6, h7, h8, h9, h10, h11, h12, h13, h14, h15, h16, h17, h18, h19, h20, h21, e5, e6, lv, lv1, lv2, List.take_of_length_le]
  · rw [hA] at h2 h15
    rw [hC] at h9 h17
    obtain ⟨rfl, rfl⟩ : st2 = u ∧ o2 = true := by simpa using a3 rfl
    clear a1 a3 a4
    simp only [encStore, encStoreO, encBox, encBoxO, boxes, mails, ints] at h1 h2 h3 h5 h6 h7 h8 h9 h10 h12 h13 h14 h15 h16 h17 h18 h19 h20 h21
    try generalize s.boxes.map encBox = t0 at *
    try generalize irow s.gone = t1 at *
    try generalize x1.boxes.map encBox = t2 at *
    try generalize irow x1.gone = t3 at *
    try generalize x2.boxes.map encBox = t4 at *
    try generalize irow x2.gone = t5 at *
    try generalize p.boxes.map encBox = t6 at *
    try generalize irow p.gone = t7 at *
    try generalize q.boxes.map encBox = t8 at *
    try generalize irow q.gone = t9 at *
    try generalize b.mails.map encMail = u0 at *
    try generalize irow b.gone = u1 at *
    try generalize b1.mails.map encMail = u2 at *
    try generalize irow b1.gone = u3 at *
    try generalize b2.mails.map encMail = u4 at *
    try generalize irow b2.gone = u5 at *
    simp (maxSteps := 1000000) (disch := (first | omega | (simp; done) | (simp; omega))) [exB, laws_FnTexts.m, laws_FnTexts.b, bs_get, List.take_of_length_le, setAt, str_add, laws_FnTexts.fin, hbig, h1, h2, h3, h4, h5, h6, h7, h8, h9, h10, h11, h12, h13, h14, h15, h16, h17, h18, h19, h20, h21, e5, e6, lv, lv1, lv2, List.take_of_length_le]
  · rw [hA] at h2 h15
    rw [hC] at h9 h17
    obtain ⟨rfl, rfl⟩ : st2 = u ∧ o2 = true := by simpa using a3 rfl
    obtain ⟨rfl, rfl, rfl⟩ : b1 = b ∧ e1 = 1 + (v.length : Int) ∧ g1 = true := by simpa using a4 hC
    clear a1 a3 a4
    simp only [encStore, encStoreO, encBox, encBoxO, boxes, mails, ints] at h1 h2 h3 h5 h6 h7 h8 h9 h10 h12 h13 h14 h15 h16 h17 h18 h19 h20 h21
    try generalize s.boxes.map encBox = t0 at *
    try generalize irow s.gone = t1 at *
    try generalize x1.boxes.map encBox = t2 at *
    try generalize irow x1.gone = t3 at *
    try generalize x2.boxes.map encBox = t4 at *
    try generalize irow x2.gone = t5 at *
    try generalize p.boxes.map encBox = t6 at *
    try generalize irow p.gone = t7 at *
    try generalize q.boxes.map encBox = t8 at *
    try generalize irow q.gone = t9 at *
    try generalize b.mails.map encMail = u0 at *
    try generalize irow b.gone = u1 at *
    try generalize b1.mails.map encMail = u2 at *
    try generalize irow b1.gone = u3 at *
    try generalize b2.mails.map encMail = u4 at *
    try generalize irow b2.gone = u5 at *
    simp (maxSteps := 1000000) (disch := (first | omega | (simp; done) | (simp; omega))) [exB, laws_FnTexts.m, laws_FnTexts.b, bs_get, List.take_of_length_le, setAt, str_add, laws_FnTexts.fin, hbig, h1, h2, h3, h4, h5, h6, h7, h8, h9, h10, h11, h12, h13, h14, h15, h16, h17, h18, h19, h20, h21, e5, e6, lv, lv1, lv2, List.take_of_length_le]
  · rw [hA] at h2 h15
    rw [hC] at h9 h17
    obtain ⟨rfl, rfl⟩ : x1 = s ∧ y1 = true := by simpa using a1 hA
    clear a1 a3 a4
    simp only [encStore, encStoreO, encBox, encBoxO, boxes, mails, ints] at h1 h2 h3 h5 h6 h7 h8 h9 h10 h12 h13 h14 h15 h16 h17 h18 h19 h20 h21
    try generalize s.boxes.map encBox = t0 at *
    try generalize irow s.gone = t1 at *
    try generalize x1.boxes.map encBox = t2 at *
    try generalize irow x1.gone = t3 at *
    try generalize x2.boxes.map encBox = t4 at *
    try generalize irow x2.gone = t5 at *
    try generalize p.boxes.map encBox = t6 at *
    try generalize irow p.gone = t7 at *
    try generalize q.boxes.map encBox = t8 at *
    try generalize irow q.gone = t9 at *
    try generalize b.mails.map encMail = u0 at *
    try generalize irow b.gone = u1 at *
    try generalize b1.mails.map encMail = u2 at *
    try generalize irow b1.gone = u3 at *
    try generalize b2.mails.map encMail = u4 at *
    try generalize irow b2.gone = u5 at *
    simp (maxSteps := 1000000) (disch := (first | omega | (simp; done) | (simp; omega))) [exB, laws_FnTexts.m, laws_FnTexts.b, bs_get, List.take_of_length_le, setAt, str_add, laws_FnTexts.fin, hbig, h1, h2, h3, h4, h5, h6, h7, h8, h9, h10, h11, h12, h13, h14, h15, h16, h17, h18, h19, h20, h21, e5, e6, lv, lv1, lv2, List.take_of_length_le]
  · rw [hA] at h2 h15
    rw [hC] at h9 h17
    obtain ⟨rfl, rfl⟩ : x1 = s ∧ y1 = true := by simpa using a1 hA
    obtain ⟨rfl, rfl, rfl⟩ : b1 = b ∧ e1 = 1 + (v.length : Int) ∧ g1 = true := by simpa using a4 hC
    clear a1 a3 a4
    simp only [encStore, encStoreO, encBox, encBoxO, boxes, mails, ints] at h1 h2 h3 h5 h6 h7 h8 h9 h10 h12 h13 h14 h15 h16 h17 h18 h19 h20 h21
    try generalize s.boxes.map encBox = t0 at *
    try generalize irow s.gone = t1 at *
    try generalize x1.boxes.map encBox = t2 at *
    try generalize irow x1.gone = t3 at *
    try generalize x2.boxes.map encBox = t4 at *
    try generalize irow x2.gone = t5 at *
    try generalize p.boxes.map encBox = t6 at *
    try generalize irow p.gone = t7 at *
    try generalize q.boxes.map encBox = t8 at *
    try generalize irow q.gone = t9 at *
    try generalize b.mails.map encMail = u0 at *
    try generalize irow b.gone = u1 at *
    try generalize b1.mails.map encMail = u2 at *
    try generalize irow b1.gone = u3 at *
    try generalize b2.mails.map encMail = u4 at *
    try generalize irow b2.gone = u5 at *
    simp (maxSteps := 1000000) (disch := (first | omega | (simp; done) | (simp; omega))) [exB, laws_FnTexts.m, laws_FnTexts.b, bs_get, List.take_of_length_le, setAt, str_add, laws_FnTexts.fin, hbig, h1, h2, h3, h4, h5, h6, h7, h8, h9, h10, h11, h12, h13, h14, h15, h16, h17, h18, h19, h20, h21, e5, e6, lv, lv1, lv2, List.take_of_length_le]
  · rw [hA] at h2 h15
    rw [hC] at h9 h17
    obtain ⟨rfl, rfl⟩ : x1 = s ∧ y1 = true := by simpa using a1 hA
    obtain ⟨rfl, rfl⟩ : st2 = u ∧ o2 = true := by simpa using a3 rfl
    clear a1 a3 a4
    simp only [encStore, encStoreO, encBox, encBoxO, boxes, mails, ints] at h1 h2 h3 h5 h6 h7 h8 h9 h10 h12 h13 h14 h15 h16 h17 h18 h19 h20 h21
    try generalize s.boxes.map encBox = t0 at *
    try generalize irow s.gone = t1 at *
    try generalize x1.boxes.map encBox = t2 at *
    try generalize irow x1.gone = t3 at *
    try generalize x2.boxes.map encBox = t4 at *
    try generalize irow x2.gone = t5 at *
    try generalize p.boxes.map encBox = t6 at *
    try generalize irow p.gone = t7 at *
    try generalize q.boxes.map encBox = t8 at *
    try generalize irow q.gone = t9 at *
    try generalize b.mails.map encMail = u0 at *
    try generalize irow b.gone = u1 at *
    try generalize b1.mails.map encMail = u2 at *
    try generalize irow b1.gone = u3 at *
    try generalize b2.mails.map encMail = u4 at *
    try generalize irow b2.gone = u5 at *
    simp (maxSteps := 1000000) (disch := (first | omega | (simp; done) | (simp; omega))) [exB, laws_FnTexts.m, laws_FnTexts.b, bs_get, List.take_of_length_le, setAt, str_add, laws_FnTexts.fin, hbig, h1, h2, h3, h4, h5, h6, h7, h8, h9, h10, h11, h12, h13, h14, h15, h16, h17, h18, h19, h20, h21, e5, e6, lv, lv1, lv2, List.take_of_length_le]
  · rw [hA] at h2 h15
    rw [hC] at h9 h17
    obtain ⟨rfl, rfl⟩ : x1 = s ∧ y1 = true := by simpa using a1 hA
    obtain ⟨rfl, rfl⟩ : st2 = u ∧ o2 = true := by simpa using a3 rfl
    obtain ⟨rfl, rfl, rfl⟩ : b1 = b ∧ e1 = 1 + (v.length : Int) ∧ g1 = true := by simpa using a4 hC
    clear a1 a3 a4
    simp only [encStore, encStoreO, encBox, encBoxO, boxes, mails, ints] at h1 h2 h3 h5 h6 h7 h8 h9 h10 h12 h13 h14 h15 h16 h17 h18 h19 h20 h21
    try generalize s.boxes.map encBox = t0 at *
    try generalize irow s.gone = t1 at *
    try generalize x1.boxes.map encBox = t2 at *
    try generalize irow x1.gone = t3 at *
    try generalize x2.boxes.map encBox = t4 at *
    try generalize irow x2.gone = t5 at *
    try generalize p.boxes.map encBox = t6 at *
    try generalize irow p.gone = t7 at *
    try generalize q.boxes.map encBox = t8 at *
    try generalize irow q.gone = t9 at *
    try generalize b.mails.map encMail = u0 at *
    try generalize irow b.gone = u1 at *
    try generalize b1.mails.map encMail = u2 at *
    try generalize irow b1.gone = u3 at *
    try generalize b2.mails.map encMail = u4 at *
    try generalize irow b2.gone = u5 at *
    simp (maxSteps := 1000000) (disch := (first | omega | (simp; done) | (simp; omega))) [exB, laws_FnTexts.m, laws_FnTexts.b, bs_get, List.take_of_length_le, setAt, str_add, laws_FnTexts.fin, hbig, h1, h2, h3, h4, h5, h6, h7, h8, h9, h10, h11, h12, h13, h14, h15, h16, h17, h18, h19, h20, h21, e5, e6, lv, lv1, lv2, List.take_of_length_le]
theorem laws_FnTexts.row (h : laws_FnTexts.k M) {as : List V} (ha : HasVs [.cell (.sl [.int .u8])] as) : run M 396 as [] = some (.c (.bool true), []) := by
  cases ha with | cons h0 ha =>
  cases ha
  cases h0 with | cell h0 =>
  cases h0 with | sl _ rows hl h1 h2 =>
  refine laws_FnTexts.says h rows (Nat.le_trans hl (by decide)) fun i r hr => ?_
  have hlen := h1 i r hr
  match r, hlen with
  | [a], _ =>
    obtain ⟨n, rfl⟩ := has_int (h2 i 0 [a] (.int .u8) a hr rfl rfl)
    exact ⟨n, rfl⟩
end Mx
