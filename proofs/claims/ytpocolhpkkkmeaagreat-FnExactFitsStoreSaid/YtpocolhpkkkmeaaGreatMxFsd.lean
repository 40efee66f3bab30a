/-
  What more of the functions compute, each by a small evaluation; no condition beyond what each says.
-/
import Derived.Test.YtpocolhpkkkmeaaGreatMxFsc
set_option linter.unusedSimpArgs false
set_option linter.unusedVariables false
namespace Mx
open Go
variable {M : Nat → Option Body}
def gidsOf (b : Box) : List Int := b.mails.map (·.gid)
def seenAt (s : Store) (i : Nat) : List Int := (s.boxes.take i).flatMap gidsOf
theorem seenAt_succ {s : Store} {i : Nat} (h : i < s.boxes.length) : seenAt s (i + 1) = seenAt s i ++ gidsOf s.boxes[i] := by
  rw [seenAt, seenAt, List.take_succ_eq_append_getElem h, List.flatMap_append]; simp
def dupAt (seen l : List Int) (k : Nat) : Bool := match l[k]? with
  | some g => decide (g ∈ seen ++ l.take k)
  | none => false
theorem dupAt_at {seen l : List Int} {k : Nat} (h : k < l.length) : dupAt seen l k = decide (l[k] ∈ seen ++ l.take k) := by simp [dupAt, h]
def dups (seen l : List Int) : Bool := (firstN (dupAt seen l) l.length).isSome
def badBox (s : Store) (i : Nat) : Bool := match s.boxes[i]? with
  | some b => !boxOk b || (decide (0 < i) && match s.boxes[i - 1]? with | some p => decide (b.gid ≤ p.gid) | none => false) || !decide (intO (named s.boxes b.name) = (i : Int)) || decide (b.gid ∈ s.gone) || late b s.time
  | none => false
theorem badBox_at {s : Store} {i : Nat} (h : i < s.boxes.length) : badBox s i = (!boxOk s.boxes[i] || (decide (0 < i) && decide (s.boxes[i].gid ≤ s.boxes[i - 1].gid)) || !decide (intO (named s.boxes s.boxes[i].name) = (i : Int)) ||
    decide (s.boxes[i].gid ∈ s.gone) || late s.boxes[i] s.time) := by simp [badBox, h, (show i - 1 < s.boxes.length by omega)]
def badAt (s : Store) (i : Nat) : Bool := badBox s i || match s.boxes[i]? with
  | some b => dups (seenAt s i) (gidsOf b)
  | none => false
theorem badAt_at {s : Store} {i : Nat} (h : i < s.boxes.length) : badAt s i = (badBox s i || dups (seenAt s i) (gidsOf s.boxes[i])) := by simp [badAt, h]
def storeOk (s : Store) : Bool := inR 1 s.who 2 && inR 0 s.time 100000 && decide (s.boxes.length ≤ 5) && gidsOk s.gone 20 && (firstN (badAt s) s.boxes.length).isNone
/-- small enough to be walked -/
structure BoxIn (b : Box) : Prop where
  m : b.mails.length ≤ 1048576
  g : b.gone.length ≤ 1048576
  n : b.name.length ≤ 1048576
  f : ∀ m ∈ b.mails, m.flags.length ≤ 1048576
structure StoreIn (s : Store) : Prop where
  b : s.boxes.length ≤ 1048576
  g : s.gone.length ≤ 1048576
  i : ∀ b ∈ s.boxes, BoxIn b
  s : (s.boxes.flatMap gidsOf).length ≤ 1048576
theorem seenAt_le {s : Store} (h : StoreIn s) (i : Nat) : (seenAt s i).length ≤ 1048576 := by
  refine Nat.le_trans ?_ h.s
  conv => rhs; rw [← List.take_append_drop i s.boxes]
  rw [List.flatMap_append, List.length_append]
  exact Nat.le_add_right _ _
def soO (s : Store) (seen : List Int) (x : Nat × Nat × Nat) : List (Nat × Ob) := [(1, ⟨x.1, 4, true, true, [encStore s]⟩), (30, ⟨x.2.1, 1, true, false, irow seen⟩)]
def so0S (s : Store) (i : Nat) (x : Nat × Nat × Nat) : St := { t := [(1, .c (.ptr 1 x.1 0 0)), (3, .c (.row 30 x.2.1 0 (seenAt s i).length)), (32, .c (boxes s.boxes)), (33, .c (I s.boxes.length)), (34, .c (I i))], o := soO s (seenAt s i) x, n := x.2.2 }
def so0E (s : Store) (x : Nat × Nat × Nat) : St := { t := [(1, .c (.ptr 1 x.1 0 0)), (3, .c (.row 30 x.2.1 0 (seenAt s s.boxes.length).length)), (32, .c (boxes s.boxes)), (33, .c (I s.boxes.length)), (34, .c (I s.boxes.length)), (35, .c (.bool false))], o := soO s (seenAt s s.boxes.length) x, n := x.2.2 }
def so1S (s : Store) (b : Box) (seen : List Int) (i k : Nat) (x : Nat × Nat × Nat) : St := { t := [(1, .c (.ptr 1 x.1 0 0)), (3, .c (.row 30 x.2.1 0 (seen.length + k))), (32, .c (boxes s.boxes)), (33, .c (I s.boxes.length)), (34, .c (I i)), (80, .c (mails b.mails)), (81, .c (I b.mails.length)), (82, .c (I k))], o := soO s (seen ++ (gidsOf b).take k) x, n := x.2.2 }
def so1E (s : Store) (b : Box) (seen : List Int) (i : Nat) (x : Nat × Nat × Nat) : St := { t := [(1, .c (.ptr 1 x.1 0 0)), (3, .c (.row 30 x.2.1 0 (seen.length + b.mails.length))), (32, .c (boxes s.boxes)), (33, .c (I s.boxes.length)), (34, .c (I i)), (80, .c (mails b.mails)), (81, .c (I b.mails.length)), (82, .c (I b.mails.length)), (83, .c (.bool false))], o := soO s (seen ++ gidsOf b) x, n := x.2.2 }
theorem gidsOf_len (b : Box) : (gidsOf b).length = b.mails.length := by simp [gidsOf]
theorem gidsOf_at (b : Box) (k : Nat) (h : k < (gidsOf b).length) : (gidsOf b)[k] = (b.mails[k]'(by simpa [gidsOf] using h)).gid := by simp [gidsOf]
theorem impl_StoreOk.inner (hin : slices_Contains_int_int.k M) (s : Store) (b : Box) (seen : List Int) (i K : Nat) (hl : b.mails.length ≤ 1048576) (hs : seen.length ≤ 1048576) :
    ∃ g : Nat × Nat × Nat → (Nat × Nat × Nat) × Nat, ∀ x, loopN (exC (run M) K impl_StoreOk.l1) (b.mails.length + 1) (so1S s b seen i 0 x) = some (fin1 2 (.bool false) 2 (so1E s b seen i) (firstN (dupAt seen (gidsOf b)) b.mails.length) (g x)) :=
  early_loop b.mails.length (dupAt seen (gidsOf b)) (so1S s b seen i) 2 (.bool false) 2 (so1E s b seen i)
    (fun k hk x c => by
      obtain ⟨v, w, x⟩ := x
      have hk' : k < (gidsOf b).length := by rw [gidsOf_len]; exact hk
      rw [dupAt_at hk'] at c
      have hlen : (seen ++ (gidsOf b).take k).length = seen.length + k := by rw [List.length_append, List.length_take, Nat.min_eq_left (by omega)]
      have h1 := slices_Contains_int_int.says hin (seen ++ (gidsOf b).take k) (gidsOf b)[k] (by rw [hlen]; omega)
      rw [c] at h1
      rw [gidsOf_at] at h1
      simp only [ints] at h1
      have e5 : IntKind.i64.wrap ((k : Int) + 1) = (k : Int) + 1 := wrap_i64 (by omega) (by omega)
      have e6 : seen.length + (k + 1) ≤ 4294967296 := by omega
      have e7 : seen ++ (gidsOf b).take (k + 1) = (seen ++ (gidsOf b).take k) ++ [b.mails[k].gid] := by rw [List.take_succ_eq_append_getElem hk', gidsOf_at, List.append_assoc]
      have e8 : irow ((seen ++ (gidsOf b).take k) ++ [b.mails[k].gid]) = irow (seen ++ (gidsOf b).take k) ++ [[I b.mails[k].gid]] := by simp [irow]
      have e9 : (irow (seen ++ (gidsOf b).take k)).length = seen.length + k := by simp only [irow, List.length_map]; exact hlen
      simp only [Prod.exists, so1S, soO, e7, e8]
      generalize irow (seen ++ (gidsOf b).take k) = rr at *
      simp (maxSteps := 1000000) [impl_StoreOk.l1, List.range_succ, bs_get, setAt, hk, h1, encMail, e5, e6, e9, List.take_of_length_le, Nat.add_assoc])
    (fun k hk x c => by
      obtain ⟨v, w, x⟩ := x
      have hk' : k < (gidsOf b).length := by rw [gidsOf_len]; exact hk
      rw [dupAt_at hk'] at c
      have hlen : (seen ++ (gidsOf b).take k).length = seen.length + k := by rw [List.length_append, List.length_take, Nat.min_eq_left (by omega)]
      have h1 := slices_Contains_int_int.says hin (seen ++ (gidsOf b).take k) (gidsOf b)[k] (by rw [hlen]; omega)
      rw [c] at h1
      rw [gidsOf_at] at h1
      simp only [ints] at h1
      have e9 : (irow (seen ++ (gidsOf b).take k)).length = seen.length + k := by simp only [irow, List.length_map]; exact hlen
      simp only [so1S, soO]
      generalize irow (seen ++ (gidsOf b).take k) = rr at *
      simp (maxSteps := 1000000) [impl_StoreOk.l1, List.range_succ, bs_get, setAt, hk, h1, encMail, e9, List.take_of_length_le])
    (fun x => by
      obtain ⟨v, w, x⟩ := x
      have e7 : (gidsOf b).take b.mails.length = gidsOf b := List.take_of_length_le (by rw [gidsOf_len]; omega)
      simp only [Prod.exists, so1S, so1E, soO, e7]
      simp (maxSteps := 1000000) [impl_StoreOk.l1, List.range_succ, bs_get, setAt])
theorem BoxIn.ok {b : Box} (h : BoxIn b) : b.mails.length ≤ 1048576 ∧ b.gone.length ≤ 4611686018427387904 ∧ b.name.length ≤ 4611686018427387904 ∧ ∀ m ∈ b.mails, m.flags.length ≤ 1048576 := ⟨h.m, by have := h.g; omega, by have := h.n; omega, h.f⟩
structure impl_StoreOk.ks (M : Nat → Option Body) : Prop where
  box : impl_BoxOk.k M
  con : slices_Contains_int_int.k M
  nam : impl_BoxNamed.k M
  lat : impl_isLate.k M
theorem impl_StoreOk.good (h : impl_StoreOk.ks M) (s : Store) (hs : StoreIn s) (K : Nat) (hK : 2000000 ≤ K) (i : Nat) (hi : i < s.boxes.length) (x : Nat × Nat × Nat) (c : badAt s i = false) :
    ∃ y, exC (run M) K impl_StoreOk.l0 (so0S s i x) = some (.normal, so0S s (i + 1) y) := by
  have hb := hs.i _ (List.getElem_mem hi)
  have h1 := impl_BoxOk.says h.box s.boxes[i] hb.ok.1 hb.ok.2.1 hb.ok.2.2.1 hb.ok.2.2.2
  have h2 := impl_BoxNamed.says h.nam s s.boxes[i].name hs.b
  have h3 := slices_Contains_int_int.says h.con s.gone s.boxes[i].gid (by have := hs.g; omega)
  have h4 := impl_isLate.says h.lat s.boxes[i] s.time hb.m hb.f
  have hsl := seenAt_le hs i
  obtain ⟨g, hr⟩ := impl_StoreOk.inner h.con s s.boxes[i] (seenAt s i) i K hb.m hsl
  have hr2 := fun x => loopN_le (hr x) (show s.boxes[i].mails.length + 1 ≤ K by have := hb.m; omega)
  rw [badAt_at hi, badBox_at hi] at c
  simp only [Bool.or_eq_false_iff, Bool.and_eq_false_iff, Bool.not_eq_false', decide_eq_false_iff_not, decide_eq_true_eq] at c
  obtain ⟨⟨⟨⟨⟨c1, c2⟩, c3⟩, c4⟩, c5⟩, c6⟩ := c
  have e5 : IntKind.i64.wrap ((i : Int) + 1) = (i : Int) + 1 := wrap_i64 (by have := hs.b; omega) (by have := hs.b; omega)
  rw [c1] at h1
  rw [c3] at h2
  rw [decide_eq_false c4] at h3
  rw [c5] at h4
  have q : firstN (dupAt (seenAt s i) (gidsOf s.boxes[i])) s.boxes[i].mails.length = none := by
    unfold dups at c6; rw [gidsOf_len] at c6; simpa using c6
  rw [q] at hr2
  obtain ⟨v, w, x⟩ := x
  simp only [encBox, encStore] at h1 h2 h4
  simp only [ints] at h3
  have hz : irow (seenAt s i ++ gidsOf s.boxes[i]) = irow (seenAt s i) ++ irow (gidsOf s.boxes[i]) := by simp [irow]
  simp [so1S, so1E, soO, fin1] at hr2
  simp only [so0S, soO, seenAt_succ hi, Prod.exists]
  have hgl := gidsOf_len s.boxes[i]
  by_cases c7 : 0 < i
  · have e6 : IntKind.i64.wrap ((i : Int) - 1) = ((i - 1 : Nat) : Int) := by rw [wrap_i64 (by have := hs.b; omega) (by have := hs.b; omega)]; omega
    have c2' : ¬ s.boxes[i].gid ≤ s.boxes[i - 1].gid := by
      rcases c2 with c2 | c2
      · exact absurd c7 c2
      · exact c2
    simp (maxSteps := 1000000) [impl_StoreOk.l0, List.range_succ, bs_get, setAt, hi, h1, h2, h3, h4, c7, c2', e5, e6, hr2, hgl, encBox, (show i - 1 < s.boxes.length by omega)]
  · simp (maxSteps := 1000000) [impl_StoreOk.l0, List.range_succ, bs_get, setAt, hi, h1, h2, h3, h4, c7, e5, hr2, hgl, encBox]
theorem impl_StoreOk.bad (h : impl_StoreOk.ks M) (s : Store) (hs : StoreIn s) (K : Nat) (hK : 2000000 ≤ K) (i : Nat) (hi : i < s.boxes.length) (x : Nat × Nat × Nat) (c : badAt s i = true) :
    ∃ k, exC (run M) K impl_StoreOk.l0 (so0S s i x) = some (.ret, { t := [(2, .c (.bool false))], o := [], n := k }) := by
  have hb := hs.i _ (List.getElem_mem hi)
  have h1 := impl_BoxOk.says h.box s.boxes[i] hb.ok.1 hb.ok.2.1 hb.ok.2.2.1 hb.ok.2.2.2
  have h2 := impl_BoxNamed.says h.nam s s.boxes[i].name hs.b
  have h3 := slices_Contains_int_int.says h.con s.gone s.boxes[i].gid (by have := hs.g; omega)
  have h4 := impl_isLate.says h.lat s.boxes[i] s.time hb.m hb.f
  have hsl := seenAt_le hs i
  obtain ⟨g, hr⟩ := impl_StoreOk.inner h.con s s.boxes[i] (seenAt s i) i K hb.m hsl
  have hr2 := fun x => loopN_le (hr x) (show s.boxes[i].mails.length + 1 ≤ K by have := hb.m; omega)
  rw [badAt_at hi, badBox_at hi] at c
  obtain ⟨v, w, x⟩ := x
  simp only [encBox, encStore] at h1 h2 h4
  simp only [ints] at h3
  simp only [so0S, soO]
  cases c1 : boxOk s.boxes[i]
  · rw [c1] at h1
    simp (maxSteps := 1000000) [impl_StoreOk.l0, List.range_succ, bs_get, setAt, hi, h1, encBox]
  rw [c1] at h1
  have tail : ∀ (hp : ¬ 0 < i ∨ ¬ s.boxes[i].gid ≤ s.boxes[i - 1].gid), ∃ k, exC (run M) K impl_StoreOk.l0 { t := [(1, .c (.ptr 1 v 0 0)), (3, .c (.row 30 w 0 (seenAt s i).length)), (32, .c (boxes s.boxes)), (33, .c (I s.boxes.length)), (34, .c (I i))], o := [(1, ⟨v, 4, true, true, [encStore s]⟩), (30, ⟨w, 1, true, false, irow (seenAt s i)⟩)], n := x } = some (.ret, { t := [(2, .c (.bool false))], o := [], n := k }) := by
    intro hp
    have hpp : (decide (0 < i) && decide (s.boxes[i].gid ≤ s.boxes[i - 1].gid)) = false := by
      rcases hp with hp | hp <;> simp [hp]
    have key : (∀ (Q : Prop), (0 < i → ¬ s.boxes[i].gid ≤ s.boxes[i - 1].gid → Q) → (¬ 0 < i → Q) → Q) := by
      intro Q q1 q2
      by_cases c7 : 0 < i
      · rcases hp with hp | hp
        · exact absurd c7 hp
        · exact q1 c7 hp
      · exact q2 c7
    have e6 : 0 < i → IntKind.i64.wrap ((i : Int) - 1) = ((i - 1 : Nat) : Int) := fun c7 => by rw [wrap_i64 (by have := hs.b; omega) (by have := hs.b; omega)]; omega
    have hi1 : i - 1 < s.boxes.length := by omega
    by_cases c3 : intO (named s.boxes s.boxes[i].name) = (i : Int)
    rotate_left
    · exact key _ (fun c7 c2 => by simp (maxSteps := 1000000) [impl_StoreOk.l0, List.range_succ, bs_get, setAt, hi, h1, h2, c7, c2, c3, e6 c7, encBox, hi1]) (fun c7 => by simp (maxSteps := 1000000) [impl_StoreOk.l0, List.range_succ, bs_get, setAt, hi, h1, h2, c7, c3, encBox])
    rw [c3] at h2
    by_cases c4 : s.boxes[i].gid ∈ s.gone
    · rw [decide_eq_true c4] at h3
      exact key _ (fun c7 c2 => by simp (maxSteps := 1000000) [impl_StoreOk.l0, List.range_succ, bs_get, setAt, hi, h1, h2, h3, c7, c2, c3, e6 c7, encBox, hi1]) (fun c7 => by simp (maxSteps := 1000000) [impl_StoreOk.l0, List.range_succ, bs_get, setAt, hi, h1, h2, h3, c7, c3, encBox])
    rw [decide_eq_false c4] at h3
    cases c5 : late s.boxes[i] s.time
    rotate_left
    · rw [c5] at h4
      exact key _ (fun c7 c2 => by simp (maxSteps := 1000000) [impl_StoreOk.l0, List.range_succ, bs_get, setAt, hi, h1, h2, h3, h4, c7, c2, c3, e6 c7, encBox, hi1]) (fun c7 => by simp (maxSteps := 1000000) [impl_StoreOk.l0, List.range_succ, bs_get, setAt, hi, h1, h2, h3, h4, c7, c3, encBox])
    rw [c5] at h4
    have c6 : dups (seenAt s i) (gidsOf s.boxes[i]) = true := by
      rw [c1, hpp, c3, c5] at c
      simpa [c4] using c
    obtain ⟨k, hk⟩ : ∃ k, firstN (dupAt (seenAt s i) (gidsOf s.boxes[i])) s.boxes[i].mails.length = some k := by
      unfold dups at c6; rw [gidsOf_len] at c6; exact Option.isSome_iff_exists.1 c6
    rw [hk] at hr2
    simp [so1S, soO, fin1] at hr2
    have hgl := gidsOf_len s.boxes[i]
    exact key _ (fun c7 c2 => by simp (maxSteps := 1000000) [impl_StoreOk.l0, List.range_succ, bs_get, setAt, hi, h1, h2, h3, h4, c7, c2, c3, e6 c7, hr2, encBox, hi1]) (fun c7 => by simp (maxSteps := 1000000) [impl_StoreOk.l0, List.range_succ, bs_get, setAt, hi, h1, h2, h3, h4, c7, c3, hr2, encBox])
  by_cases c7 : 0 < i
  · by_cases c2 : s.boxes[i].gid ≤ s.boxes[i - 1].gid
    · have e6 : IntKind.i64.wrap ((i : Int) - 1) = ((i - 1 : Nat) : Int) := by rw [wrap_i64 (by have := hs.b; omega) (by have := hs.b; omega)]; omega
      simp (maxSteps := 1000000) [impl_StoreOk.l0, List.range_succ, bs_get, setAt, hi, h1, c7, c2, e6, encBox, (show i - 1 < s.boxes.length by omega)]
    · exact tail (.inr c2)
  · exact tail (.inl c7)
theorem impl_StoreOk.says (h : impl_StoreOk.k M) (s : Store) (hs : StoreIn s) : run M 150 [.a (encStore s)] [] = some (.c (.bool (storeOk s)), []) := by
  obtain ⟨h0, k1, k2, k3, k4, k5, k6⟩ := h
  have h1 := impl_within.inR k2 s.who 1 2
  have h2 := impl_within.inR k2 s.time 0 100000
  have h3 := impl_areGids.says k4 s.gone 20 (by have := hs.g; omega)
  refine run_code (b := impl_StoreOk.m) h0 ⟨4000000, ?_⟩
  obtain ⟨K, hK⟩ : ∃ K, 4000000 = K := ⟨_, rfl⟩
  rw [hK]
  obtain ⟨g, hr⟩ := early_loop (f := exC (run M) K impl_StoreOk.l0) s.boxes.length (badAt s) (so0S s) 2 (.bool false) 0 (so0E s)
    (fun i hi x c => impl_StoreOk.good ⟨k1, k3, k5, k6⟩ s hs K (by omega) i hi x c)
    (fun i hi x c => impl_StoreOk.bad ⟨k1, k3, k5, k6⟩ s hs K (by omega) i hi x c)
    (fun x => by
      obtain ⟨v, w, x⟩ := x
      simp only [Prod.exists]
      simp (maxSteps := 1000000) [impl_StoreOk.l0, List.range_succ, bs_get, setAt, so0S, so0E, soO])
  have hr2 := fun x => loopN_le (hr x) (show s.boxes.length + 1 ≤ K by have := hs.b; omega)
  cases c1 : inR 1 s.who 2
  · simp (maxSteps := 1000000) [exB, impl_StoreOk.m, impl_StoreOk.b, List.range_succ, bs_get, setAt, h1, c1, storeOk]
  cases c2 : inR 0 s.time 100000
  · simp (maxSteps := 1000000) [exB, impl_StoreOk.m, impl_StoreOk.b, List.range_succ, bs_get, setAt, h1, h2, c1, c2, storeOk]
  by_cases c3 : 5 < s.boxes.length
  · have c3' : ¬ s.boxes.length ≤ 5 := by omega
    have ci : (5 : Int) < s.boxes.length := by omega
    simp (maxSteps := 1000000) [exB, impl_StoreOk.m, impl_StoreOk.b, List.range_succ, bs_get, setAt, h1, h2, c1, c2, c3', ci, storeOk]
  have c3' : s.boxes.length ≤ 5 := by omega
  have ci : ¬ (5 : Int) < s.boxes.length := by omega
  cases c4 : gidsOk s.gone 20
  · simp (maxSteps := 1000000) [exB, impl_StoreOk.m, impl_StoreOk.b, List.range_succ, bs_get, setAt, h1, h2, h3, c1, c2, ci, c4, storeOk]
  have hz : seenAt s 0 = [] := by simp [seenAt]
  cases q : firstN (badAt s) s.boxes.length with
  | none =>
    simp [so0S, so0E, soO, q, fin1, hz, irow] at hr2
    simp (maxSteps := 1000000) [exB, impl_StoreOk.m, impl_StoreOk.b, List.range_succ, bs_get, setAt, h1, h2, h3, c1, c2, c3', ci, c4, hr2, storeOk, q]
  | some k =>
    simp [so0S, soO, q, fin1, hz, irow] at hr2
    simp (maxSteps := 1000000) [exB, impl_StoreOk.m, impl_StoreOk.b, List.range_succ, bs_get, setAt, h1, h2, h3, c1, c2, c3', ci, c4, hr2, storeOk, q]
def spO (s : Store) (seen : List Int) (x : Nat × Nat × Nat) : List (Nat × Ob) := [(1, ⟨x.1, 4, true, true, [encStore s]⟩), (29, ⟨x.2.1, 1, true, false, irow seen⟩)]
def sp0S (s : Store) (i : Nat) (x : Nat × Nat × Nat) : St := { t := [(1, .c (.ptr 1 x.1 0 0)), (3, .c (.row 29 x.2.1 0 (seenAt s i).length)), (4, .c (I i))], o := spO s (seenAt s i) x, n := x.2.2 }
def sp0E (s : Store) (x : Nat × Nat × Nat) : St := { t := [(1, .c (.ptr 1 x.1 0 0)), (3, .c (.row 29 x.2.1 0 (seenAt s s.boxes.length).length)), (4, .c (I s.boxes.length)), (34, .c (.bool false))], o := spO s (seenAt s s.boxes.length) x, n := x.2.2 }
def sp1O (s : Store) (b : Box) (seen : List Int) (x : Nat × Nat × Nat × Nat) : List (Nat × Ob) := [(1, ⟨x.1, 4, true, true, [encStore s]⟩), (5, ⟨x.2.2.1, 7, true, true, [encBox b]⟩), (29, ⟨x.2.1, 1, true, false, irow seen⟩)]
def sp1S (s : Store) (b : Box) (seen : List Int) (i k : Nat) (x : Nat × Nat × Nat × Nat) : St := { t := [(1, .c (.ptr 1 x.1 0 0)), (3, .c (.row 29 x.2.1 0 (seen.length + k))), (4, .c (I i)), (5, .c (.ptr 5 x.2.2.1 0 0)), (6, .c (I k))], o := sp1O s b (seen ++ (gidsOf b).take k) x, n := x.2.2.2 }
def sp1E (s : Store) (b : Box) (seen : List Int) (i : Nat) (x : Nat × Nat × Nat × Nat) : St := { t := [(1, .c (.ptr 1 x.1 0 0)), (3, .c (.row 29 x.2.1 0 (seen.length + b.mails.length))), (4, .c (I i)), (5, .c (.ptr 5 x.2.2.1 0 0)), (6, .c (I b.mails.length)), (87, .c (.bool false))], o := sp1O s b (seen ++ gidsOf b) x, n := x.2.2.2 }
theorem spec_StoreOk.inner (hin : spec_l06In.k M) (s : Store) (b : Box) (seen : List Int) (i K : Nat) (hl : b.mails.length ≤ 1048576) (hs : seen.length ≤ 1048576) :
    ∃ g : Nat × Nat × Nat × Nat → (Nat × Nat × Nat × Nat) × Nat, ∀ x, loopN (exC (run M) K spec_StoreOk.l1) (b.mails.length + 1) (sp1S s b seen i 0 x) = some (fin1 2 (.bool false) 2 (sp1E s b seen i) (firstN (dupAt seen (gidsOf b)) b.mails.length) (g x)) :=
  early_loop b.mails.length (dupAt seen (gidsOf b)) (sp1S s b seen i) 2 (.bool false) 2 (sp1E s b seen i)
    (fun k hk x c => by
      obtain ⟨v, w, z, x⟩ := x
      have hk' : k < (gidsOf b).length := by rw [gidsOf_len]; exact hk
      rw [dupAt_at hk'] at c
      have hlen : (seen ++ (gidsOf b).take k).length = seen.length + k := by rw [List.length_append, List.length_take, Nat.min_eq_left (by omega)]
      have h1 := spec_l06In.says hin (seen ++ (gidsOf b).take k) (gidsOf b)[k] (by rw [hlen]; omega)
      rw [c] at h1
      rw [gidsOf_at] at h1
      simp only [ints] at h1
      have e5 : IntKind.i64.wrap ((k : Int) + 1) = (k : Int) + 1 := wrap_i64 (by omega) (by omega)
      have e6 : seen.length + (k + 1) ≤ 4294967296 := by omega
      have e7 : seen ++ (gidsOf b).take (k + 1) = (seen ++ (gidsOf b).take k) ++ [b.mails[k].gid] := by rw [List.take_succ_eq_append_getElem hk', gidsOf_at, List.append_assoc]
      have e8 : irow ((seen ++ (gidsOf b).take k) ++ [b.mails[k].gid]) = irow (seen ++ (gidsOf b).take k) ++ [[I b.mails[k].gid]] := by simp [irow]
      have e9 : (irow (seen ++ (gidsOf b).take k)).length = seen.length + k := by simp only [irow, List.length_map]; exact hlen
      simp only [Prod.exists, sp1S, sp1O, e7, e8]
      generalize irow (seen ++ (gidsOf b).take k) = rr at *
      simp (maxSteps := 1000000) [spec_StoreOk.l1, List.range_succ, bs_get, setAt, hk, h1, encMail, e5, e6, e9, List.take_of_length_le, Nat.add_assoc]
      exact ⟨_, _, _, ⟨rfl, rfl, rfl⟩, rfl, rfl, rfl⟩)
    (fun k hk x c => by
      obtain ⟨v, w, z, x⟩ := x
      have hk' : k < (gidsOf b).length := by rw [gidsOf_len]; exact hk
      rw [dupAt_at hk'] at c
      have hlen : (seen ++ (gidsOf b).take k).length = seen.length + k := by rw [List.length_append, List.length_take, Nat.min_eq_left (by omega)]
      have h1 := spec_l06In.says hin (seen ++ (gidsOf b).take k) (gidsOf b)[k] (by rw [hlen]; omega)
      rw [c] at h1
      rw [gidsOf_at] at h1
      simp only [ints] at h1
      have e9 : (irow (seen ++ (gidsOf b).take k)).length = seen.length + k := by simp only [irow, List.length_map]; exact hlen
      simp only [sp1S, sp1O]
      generalize irow (seen ++ (gidsOf b).take k) = rr at *
      simp (maxSteps := 1000000) [spec_StoreOk.l1, List.range_succ, bs_get, setAt, hk, h1, encMail, e9, List.take_of_length_le])
    (fun x => by
      obtain ⟨v, w, z, x⟩ := x
      have e7 : (gidsOf b).take b.mails.length = gidsOf b := List.take_of_length_le (by rw [gidsOf_len]; omega)
      simp only [Prod.exists, sp1S, sp1E, sp1O, e7]
      simp (maxSteps := 1000000) [spec_StoreOk.l1, List.range_succ, bs_get, setAt]
      exact ⟨_, _, _, ⟨rfl, rfl, rfl⟩, rfl, rfl, rfl⟩)
structure spec_StoreOk.ks (M : Nat → Option Body) : Prop where
  box : spec_BoxOk.k M
  con : spec_l06In.k M
  nam : spec_BoxNamed.k M
  lat : spec_l07Times.k M
theorem spec_StoreOk.good (h : spec_StoreOk.ks M) (s : Store) (hs : StoreIn s) (K : Nat) (hK : 2000000 ≤ K) (i : Nat) (hi : i < s.boxes.length) (x : Nat × Nat × Nat) (c : badAt s i = false) :
    ∃ y, exC (run M) K spec_StoreOk.l0 (sp0S s i x) = some (.normal, sp0S s (i + 1) y) := by
  have hb := hs.i _ (List.getElem_mem hi)
  have h1 := spec_BoxOk.says h.box s.boxes[i] hb.ok.1 hb.ok.2.1 hb.ok.2.2.1 hb.ok.2.2.2
  have h2 := spec_BoxNamed.says h.nam s s.boxes[i].name hs.b
  have h3 := spec_l06In.says h.con s.gone s.boxes[i].gid (by have := hs.g; omega)
  have h4 := spec_l07Times.says h.lat s.boxes[i] s.time hb.m hb.f
  have hsl := seenAt_le hs i
  obtain ⟨g, hr⟩ := spec_StoreOk.inner h.con s s.boxes[i] (seenAt s i) i K hb.m hsl
  have hr2 := fun x => loopN_le (hr x) (show s.boxes[i].mails.length + 1 ≤ K by have := hb.m; omega)
  rw [badAt_at hi, badBox_at hi] at c
  simp only [Bool.or_eq_false_iff, Bool.and_eq_false_iff, Bool.not_eq_false', decide_eq_false_iff_not, decide_eq_true_eq] at c
  obtain ⟨⟨⟨⟨⟨c1, c2⟩, c3⟩, c4⟩, c5⟩, c6⟩ := c
  have e5 : IntKind.i64.wrap ((i : Int) + 1) = (i : Int) + 1 := wrap_i64 (by have := hs.b; omega) (by have := hs.b; omega)
  rw [c1] at h1
  rw [c3] at h2
  rw [decide_eq_false c4] at h3
  rw [c5] at h4
  have q : firstN (dupAt (seenAt s i) (gidsOf s.boxes[i])) s.boxes[i].mails.length = none := by
    unfold dups at c6; rw [gidsOf_len] at c6; simpa using c6
  rw [q] at hr2
  obtain ⟨v, w, x⟩ := x
  simp only [encBox, encStore] at h1 h2 h4
  simp only [ints] at h3
  have hz : irow (seenAt s i ++ gidsOf s.boxes[i]) = irow (seenAt s i) ++ irow (gidsOf s.boxes[i]) := by simp [irow]
  simp [sp1S, sp1E, sp1O, fin1] at hr2
  simp only [sp0S, spO, seenAt_succ hi, Prod.exists]
  have hgl := gidsOf_len s.boxes[i]
  by_cases c7 : 0 < i
  · have e6 : IntKind.i64.wrap ((i : Int) - 1) = ((i - 1 : Nat) : Int) := by rw [wrap_i64 (by have := hs.b; omega) (by have := hs.b; omega)]; omega
    have c2' : ¬ s.boxes[i].gid ≤ s.boxes[i - 1].gid := by
      rcases c2 with c2 | c2
      · exact absurd c7 c2
      · exact c2
    simp (maxSteps := 1000000) [spec_StoreOk.l0, List.range_succ, bs_get, setAt, hi, h1, h2, h3, h4, c7, c2', e5, e6, hr2, hgl, encBox, (show i - 1 < s.boxes.length by omega)]
  · simp (maxSteps := 1000000) [spec_StoreOk.l0, List.range_succ, bs_get, setAt, hi, h1, h2, h3, h4, c7, e5, hr2, hgl, encBox]
theorem spec_StoreOk.bad (h : spec_StoreOk.ks M) (s : Store) (hs : StoreIn s) (K : Nat) (hK : 2000000 ≤ K) (i : Nat) (hi : i < s.boxes.length) (x : Nat × Nat × Nat) (c : badAt s i = true) :
    ∃ k, exC (run M) K spec_StoreOk.l0 (sp0S s i x) = some (.ret, { t := [(2, .c (.bool false))], o := [], n := k }) := by
  have hb := hs.i _ (List.getElem_mem hi)
  have h1 := spec_BoxOk.says h.box s.boxes[i] hb.ok.1 hb.ok.2.1 hb.ok.2.2.1 hb.ok.2.2.2
  have h2 := spec_BoxNamed.says h.nam s s.boxes[i].name hs.b
  have h3 := spec_l06In.says h.con s.gone s.boxes[i].gid (by have := hs.g; omega)
  have h4 := spec_l07Times.says h.lat s.boxes[i] s.time hb.m hb.f
  have hsl := seenAt_le hs i
  obtain ⟨g, hr⟩ := spec_StoreOk.inner h.con s s.boxes[i] (seenAt s i) i K hb.m hsl
  have hr2 := fun x => loopN_le (hr x) (show s.boxes[i].mails.length + 1 ≤ K by have := hb.m; omega)
  rw [badAt_at hi, badBox_at hi] at c
  obtain ⟨v, w, x⟩ := x
  simp only [encBox, encStore] at h1 h2 h4
  simp only [ints] at h3
  simp only [sp0S, spO]
  cases c1 : boxOk s.boxes[i]
  · rw [c1] at h1
    simp (maxSteps := 1000000) [spec_StoreOk.l0, List.range_succ, bs_get, setAt, hi, h1, encBox]
  rw [c1] at h1
  have tail : ∀ (hp : ¬ 0 < i ∨ ¬ s.boxes[i].gid ≤ s.boxes[i - 1].gid), ∃ k, exC (run M) K spec_StoreOk.l0 { t := [(1, .c (.ptr 1 v 0 0)), (3, .c (.row 29 w 0 (seenAt s i).length)), (4, .c (I i))], o := [(1, ⟨v, 4, true, true, [encStore s]⟩), (29, ⟨w, 1, true, false, irow (seenAt s i)⟩)], n := x } = some (.ret, { t := [(2, .c (.bool false))], o := [], n := k }) := by
    intro hp
    have hpp : (decide (0 < i) && decide (s.boxes[i].gid ≤ s.boxes[i - 1].gid)) = false := by
      rcases hp with hp | hp <;> simp [hp]
    have key : (∀ (Q : Prop), (0 < i → ¬ s.boxes[i].gid ≤ s.boxes[i - 1].gid → Q) → (¬ 0 < i → Q) → Q) := by
      intro Q q1 q2
      by_cases c7 : 0 < i
      · rcases hp with hp | hp
        · exact absurd c7 hp
        · exact q1 c7 hp
      · exact q2 c7
    have e6 : 0 < i → IntKind.i64.wrap ((i : Int) - 1) = ((i - 1 : Nat) : Int) := fun c7 => by rw [wrap_i64 (by have := hs.b; omega) (by have := hs.b; omega)]; omega
    have hi1 : i - 1 < s.boxes.length := by omega
    by_cases c3 : intO (named s.boxes s.boxes[i].name) = (i : Int)
    rotate_left
    · exact key _ (fun c7 c2 => by simp (maxSteps := 1000000) [spec_StoreOk.l0, List.range_succ, bs_get, setAt, hi, h1, h2, c7, c2, c3, e6 c7, encBox, hi1]) (fun c7 => by simp (maxSteps := 1000000) [spec_StoreOk.l0, List.range_succ, bs_get, setAt, hi, h1, h2, c7, c3, encBox])
    rw [c3] at h2
    by_cases c4 : s.boxes[i].gid ∈ s.gone
    · rw [decide_eq_true c4] at h3
      exact key _ (fun c7 c2 => by simp (maxSteps := 1000000) [spec_StoreOk.l0, List.range_succ, bs_get, setAt, hi, h1, h2, h3, c7, c2, c3, e6 c7, encBox, hi1]) (fun c7 => by simp (maxSteps := 1000000) [spec_StoreOk.l0, List.range_succ, bs_get, setAt, hi, h1, h2, h3, c7, c3, encBox])
    rw [decide_eq_false c4] at h3
    cases c5 : late s.boxes[i] s.time
    rotate_left
    · rw [c5] at h4
      exact key _ (fun c7 c2 => by simp (maxSteps := 1000000) [spec_StoreOk.l0, List.range_succ, bs_get, setAt, hi, h1, h2, h3, h4, c7, c2, c3, e6 c7, encBox, hi1]) (fun c7 => by simp (maxSteps := 1000000) [spec_StoreOk.l0, List.range_succ, bs_get, setAt, hi, h1, h2, h3, h4, c7, c3, encBox])
    rw [c5] at h4
    have c6 : dups (seenAt s i) (gidsOf s.boxes[i]) = true := by
      rw [c1, hpp, c3, c5] at c
      simpa [c4] using c
    obtain ⟨k, hk⟩ : ∃ k, firstN (dupAt (seenAt s i) (gidsOf s.boxes[i])) s.boxes[i].mails.length = some k := by
      unfold dups at c6; rw [gidsOf_len] at c6; exact Option.isSome_iff_exists.1 c6
    rw [hk] at hr2
    simp [sp1S, sp1O, fin1] at hr2
    have hgl := gidsOf_len s.boxes[i]
    exact key _ (fun c7 c2 => by simp (maxSteps := 1000000) [spec_StoreOk.l0, List.range_succ, bs_get, setAt, hi, h1, h2, h3, h4, c7, c2, c3, e6 c7, hr2, encBox, hi1]) (fun c7 => by simp (maxSteps := 1000000) [spec_StoreOk.l0, List.range_succ, bs_get, setAt, hi, h1, h2, h3, h4, c7, c3, hr2, encBox])
  by_cases c7 : 0 < i
  · by_cases c2 : s.boxes[i].gid ≤ s.boxes[i - 1].gid
    · have e6 : IntKind.i64.wrap ((i : Int) - 1) = ((i - 1 : Nat) : Int) := by rw [wrap_i64 (by have := hs.b; omega) (by have := hs.b; omega)]; omega
      simp (maxSteps := 1000000) [spec_StoreOk.l0, List.range_succ, bs_get, setAt, hi, h1, c7, c2, e6, encBox, (show i - 1 < s.boxes.length by omega)]
    · exact tail (.inr c2)
  · exact tail (.inl c7)
theorem spec_StoreOk.says (h : spec_StoreOk.k M) (s : Store) (hs : StoreIn s) : run M 149 [.a (encStore s)] [] = some (.c (.bool (storeOk s)), []) := by
  obtain ⟨h0, k1, k2, k3, k4, k5, k6⟩ := h
  have h1 := spec_l01In.inR k2 s.who 1 2
  have h2 := spec_l01In.inR k2 s.time 0 100000
  have h3 := spec_l06Sorted.says k4 s.gone 20 (by have := hs.g; omega)
  refine run_code (b := spec_StoreOk.m) h0 ⟨4000000, ?_⟩
  obtain ⟨K, hK⟩ : ∃ K, 4000000 = K := ⟨_, rfl⟩
  rw [hK]
  obtain ⟨g, hr⟩ := early_loop (f := exC (run M) K spec_StoreOk.l0) s.boxes.length (badAt s) (sp0S s) 2 (.bool false) 0 (sp0E s)
    (fun i hi x c => spec_StoreOk.good ⟨k1, k3, k5, k6⟩ s hs K (by omega) i hi x c)
    (fun i hi x c => spec_StoreOk.bad ⟨k1, k3, k5, k6⟩ s hs K (by omega) i hi x c)
    (fun x => by
      obtain ⟨v, w, x⟩ := x
      simp only [Prod.exists]
      simp (maxSteps := 1000000) [spec_StoreOk.l0, List.range_succ, bs_get, setAt, sp0S, sp0E, spO])
  have hr2 := fun x => loopN_le (hr x) (show s.boxes.length + 1 ≤ K by have := hs.b; omega)
  cases c1 : inR 1 s.who 2
  · simp (maxSteps := 1000000) [exB, spec_StoreOk.m, spec_StoreOk.b, List.range_succ, bs_get, setAt, h1, c1, storeOk]
  cases c2 : inR 0 s.time 100000
  · simp (maxSteps := 1000000) [exB, spec_StoreOk.m, spec_StoreOk.b, List.range_succ, bs_get, setAt, h1, h2, c1, c2, storeOk]
  by_cases c3 : 5 < s.boxes.length
  · have c3' : ¬ s.boxes.length ≤ 5 := by omega
    have ci : (5 : Int) < s.boxes.length := by omega
    simp (maxSteps := 1000000) [exB, spec_StoreOk.m, spec_StoreOk.b, List.range_succ, bs_get, setAt, h1, h2, c1, c2, c3', ci, storeOk]
  have c3' : s.boxes.length ≤ 5 := by omega
  have ci : ¬ (5 : Int) < s.boxes.length := by omega
  cases c4 : gidsOk s.gone 20
  · simp (maxSteps := 1000000) [exB, spec_StoreOk.m, spec_StoreOk.b, List.range_succ, bs_get, setAt, h1, h2, h3, c1, c2, ci, c4, storeOk]
  have hz : seenAt s 0 = [] := by simp [seenAt]
  cases q : firstN (badAt s) s.boxes.length with
  | none =>
    simp [sp0S, sp0E, spO, q, fin1, hz, irow] at hr2
    simp (maxSteps := 1000000) [exB, spec_StoreOk.m, spec_StoreOk.b, List.range_succ, bs_get, setAt, h1, h2, h3, c1, c2, c3', ci, c4, hr2, storeOk, q]
  | some k =>
    simp [sp0S, spO, q, fin1, hz, irow] at hr2
    simp (maxSteps := 1000000) [exB, spec_StoreOk.m, spec_StoreOk.b, List.range_succ, bs_get, setAt, h1, h2, h3, c1, c2, c3', ci, c4, hr2, storeOk, q]
end Mx

namespace Mx
open Go
variable {M : Nat → Option Body}
theorem inR_iff {a n b : Int} : inR a n b = true ↔ a ≤ n ∧ n ≤ b := by simp [inR]
def isVar (n : Int) : Prop := 0 ≤ n ∧ n ≤ 1000000000
theorem flagsOk_regs {l : List Reg} (h : flagsOk l = true) : l.length = 3 ∧ ∀ r ∈ l, regOk r = true := by
  simp only [flagsOk, Bool.and_eq_true, decide_eq_true_eq, Option.isNone_iff_eq_none, firstN_isNone] at h
  refine ⟨h.2, fun r hr => ?_⟩
  obtain ⟨i, hi, e⟩ := List.getElem_of_mem hr
  have := h.1 i hi
  rw [badFlag_at hi, e] at this
  simp at this
  exact this.1
theorem mailOk_vars {m : Mail} (h : mailOk m = true) : isVar m.gid ∧ isVar m.uid ∧ m.flags.length = 3 ∧ (∀ r ∈ m.flags, regOk r = true) ∧ m.text.length ≤ 60 := by
  simp only [mailOk, Bool.and_eq_true, inR_iff, decide_eq_true_eq] at h
  have hf := flagsOk_regs h.1.2
  exact ⟨⟨by omega, by omega⟩, ⟨by omega, by omega⟩, hf.1, hf.2, h.2⟩
theorem stampOk_vars {t w : Int} (h : stampOk t w = true) : isVar t ∧ isVar w := by
  simp only [stampOk, Bool.and_eq_true, inR_iff] at h
  unfold isVar; omega
theorem gidsOk_vars {l : List Int} {most : Int} (h : gidsOk l most = true) : (l.length : Int) ≤ most ∧ ∀ n ∈ l, 1 ≤ n ∧ n ≤ 9999 := by
  simp only [gidsOk, Bool.and_eq_true, decide_eq_true_eq, Option.isNone_iff_eq_none, firstN_isNone] at h
  refine ⟨h.2, fun r hr => ?_⟩
  obtain ⟨i, hi, e⟩ := List.getElem_of_mem hr
  have := h.1 i hi
  rw [badGid_at hi, e] at this
  simp at this
  exact inR_iff.1 this.1
theorem nameOk_len {l : List UInt8} (h : nameOk l = true) : 1 ≤ l.length ∧ l.length ≤ 12 := by
  simp only [nameOk, Bool.and_eq_true, inR_iff] at h
  omega
theorem boxOk_vars {b : Box} (h : boxOk b = true) : isVar b.gid ∧ b.name.length ≤ 12 ∧ isVar b.time ∧ isVar b.who ∧ isVar b.next ∧ b.mails.length ≤ 10 ∧ b.gone.length ≤ 40 ∧ (∀ n ∈ b.gone, isVar n) ∧ ∀ m ∈ b.mails, mailOk m = true := by
  simp only [boxOk, Bool.and_eq_true, decide_eq_true_eq, Option.isNone_iff_eq_none, firstN_isNone, inR_iff] at h
  obtain ⟨⟨⟨⟨⟨⟨h1, h2⟩, h3⟩, h4⟩, h5⟩, h6⟩, h7⟩ := h
  have hn := nameOk_len h2
  have hs := stampOk_vars h3
  have hg := gidsOk_vars h6
  refine ⟨⟨by omega, by omega⟩, hn.2, hs.1, hs.2, ⟨by omega, by omega⟩, h5, by omega, fun n hn => ⟨by have := hg.2 n hn; omega, by have := hg.2 n hn; omega⟩, fun m hm => ?_⟩
  obtain ⟨i, hi, e⟩ := List.getElem_of_mem hm
  have := h7 i hi
  rw [badMail_at hi, e] at this
  simp at this
  exact this.1.1.1.1
theorem wBox_all {b : Box} {n : Nat} (h : wBox b ≤ n) : b.mails.length ≤ n ∧ b.gone.length ≤ n ∧ b.name.length ≤ n ∧ ∀ m ∈ b.mails, m.flags.length ≤ n := by
  unfold wBox at h
  refine ⟨by unfold wMails at h; omega, by omega, by omega, fun m hm => ?_⟩
  have := wMail_le hm; unfold wMail at this; omega
end Mx

namespace Mx
open Go
variable {M : Nat → Option Body}
abbrev bzero : List T := [I 0, .str ⟨#[]⟩, I 0, I 0, I 0, .nils 4, .nils 1]
abbrev mzero : List T := [I 0, I 0, .nils 3, .str ⟨#[]⟩]
structure Four where
  a : Nat
  b : Nat
  c : Nat
  d : Nat
theorem Four.ex {p : Four → Prop} : (∃ x, p x) ↔ ∃ a b c d, p ⟨a, b, c, d⟩ := ⟨fun ⟨⟨a, b, c, d⟩, h⟩ => ⟨a, b, c, d, h⟩, fun ⟨a, b, c, d, h⟩ => ⟨⟨a, b, c, d⟩, h⟩⟩
end Mx

namespace Mx
open Go
variable {M : Nat → Option Body}
theorem impl_copyRegs.says (h : impl_copyRegs.k M) (l : List Reg) (hl : l.length ≤ 1048576) : run M 239 [.c (regs l)] [] = some (.c (.sl true 3 (l.map encReg)), []) := by
  refine run_code (b := impl_copyRegs.m) h ⟨0, ?_⟩
  have e : (l.map encReg).length = l.length := by simp
  have h1 : l.length ≤ 4294967296 := by omega
  simp only [regs]
  generalize l.map encReg = r at *
  simp (maxSteps := 1000000) [exB, impl_copyRegs.m, impl_copyRegs.b, List.range_succ, bs_get, setAt, e, h1, List.take_of_length_le]
theorem spec_l04Copy.says (h : spec_l04Copy.k M) (l : List Reg) (hl : l.length ≤ 1048576) : run M 241 [.c (regs l)] [] = some (.c (.sl true 3 (l.map encReg)), []) := by
  refine run_code (b := spec_l04Copy.m) h ⟨0, ?_⟩
  have e : (l.map encReg).length = l.length := by simp
  have h1 : l.length ≤ 4294967296 := by omega
  simp only [regs]
  generalize l.map encReg = r at *
  simp (maxSteps := 1000000) [exB, spec_l04Copy.m, spec_l04Copy.b, List.range_succ, bs_get, setAt, e, h1, List.take_of_length_le]
theorem impl_copyMail.says (h : impl_copyMail.k M) (m : Mail) (hl : m.flags.length ≤ 1048576) : run M 233 [.a (encMail m)] [] = some (.a (encMailO m), []) := by
  have h1 := impl_copyRegs.says h.2 m.flags hl
  refine run_code (b := impl_copyMail.m) h.1 ⟨0, ?_⟩
  have e : (m.flags.map encReg).length = m.flags.length := by simp
  simp only [encMail, encMailO, regs] at *
  generalize m.flags.map encReg = r at *
  simp (maxSteps := 1000000) [exB, impl_copyMail.m, impl_copyMail.b, List.range_succ, bs_get, setAt, h1, e, List.take_of_length_le]
theorem spec_l05Copy.says (h : spec_l05Copy.k M) (m : Mail) (hl : m.flags.length ≤ 1048576) : run M 238 [.a (encMail m)] [] = some (.a (encMailO m), []) := by
  have h1 := spec_l04Copy.says h.2 m.flags hl
  refine run_code (b := spec_l05Copy.m) h.1 ⟨0, ?_⟩
  have e : (m.flags.map encReg).length = m.flags.length := by simp
  simp only [encMail, encMailO, regs] at *
  generalize m.flags.map encReg = r at *
  simp (maxSteps := 1000000) [exB, spec_l05Copy.m, spec_l05Copy.b, List.range_succ, bs_get, setAt, h1, e, List.take_of_length_le]
/-- a loop that counts -/
theorem count_loop {β γ : Type} (n : Nat) {f : St → Option (Out × St)} (S : Nat → β → St) (e : Nat) (E : γ → St)
    (h1 : ∀ i, i < n → ∀ x, ∃ y, f (S i x) = some (.normal, S (i + 1) y)) (h3 : ∀ x, ∃ y, f (S n x) = some (.exit e, E y)) :
    ∃ g : β → γ, ∀ x, loopN f (n + 1) (S 0 x) = some (.exit e, E (g x)) := by
  refine loop_all (f := f) S (fun i => i ≤ n) (fun i => n - i) (fun _ => ()) (fun _ m => (.exit e, E m)) ?_ (n + 1) 0 (Nat.zero_le _) (by omega)
  intro i x hi
  by_cases hlt : i < n
  · left
    obtain ⟨y, hy⟩ := h1 i hlt x
    exact ⟨i + 1, y, hy, hlt, by omega, rfl⟩
  · have : i = n := by omega
    subst this
    right
    obtain ⟨y, hy⟩ := h3 x
    exact ⟨y, by simp [hy], by simp⟩
def icO (b : Box) (i : Nat) (x : Four × Nat) : List (Nat × Ob) := [(1, ⟨x.1.a, 7, true, true, [encBox b]⟩), (2, ⟨x.1.b, 7, true, true, [bzero]⟩), (3, ⟨x.2, 7, true, true, [[I b.gid, S b.name, I b.time, I b.who, I b.next, .row 7 x.1.c 0 i, ints b.gone]]⟩), (7, ⟨x.1.c, 4, true, false, (b.mails.take i).map encMail⟩)]
def icS (b : Box) (i : Nat) (x : Four × Nat) : St := { t := [(1, .c (.ptr 1 x.1.a 0 0)), (2, .c (.ptr 2 x.1.b 0 0)), (3, .c (.ptr 3 x.2 0 0)), (10, .c (mails b.mails)), (11, .c (I b.mails.length)), (12, .c (I i))], o := icO b i x, n := x.1.d }
def icE (b : Box) (x : Four × Nat) : St := { t := [(1, .c (.ptr 1 x.1.a 0 0)), (2, .c (.ptr 2 x.1.b 0 0)), (3, .c (.ptr 3 x.2 0 0)), (10, .c (mails b.mails)), (11, .c (I b.mails.length)), (12, .c (I b.mails.length)), (13, .c (.bool false))], o := icO b b.mails.length x, n := x.1.d }
theorem take_snoc {α : Type} (l : List α) (i : Nat) (h : i < l.length) : l.take (i + 1) = l.take i ++ [l[i]] := List.take_succ_eq_append_getElem h
theorem impl_copyBox.says (h : impl_copyBox.k M) (b : Box) (hb : BoxIn b) : run M 155 [.a (encBox b)] [] = some (.a (encBoxO b), []) := by
  obtain ⟨h0, k1, k2⟩ := h
  have hm := hb.m
  have h1 := impl_copyInts.says k1 b.gone hb.g
  refine run_code (b := impl_copyBox.m) h0 ⟨b.mails.length + 1, ?_⟩
  obtain ⟨g, hr⟩ := count_loop (f := exC (run M) (b.mails.length + 1) impl_copyBox.l0) b.mails.length (icS b) 0 (icE b)
    (fun i hi x => by
      obtain ⟨⟨v1, v2, v3, n⟩, v4⟩ := x
      have h2 := impl_copyMail.says k2 b.mails[i] (hb.f _ (List.getElem_mem hi))
      have e5 : IntKind.i64.wrap ((i : Int) + 1) = (i : Int) + 1 := wrap_i64 (by omega) (by omega)
      have e6 : i + 1 ≤ 4294967296 := by omega
      have e7 : ((b.mails.take i).map encMail).length = i := by simp; omega
      have e8 : ((b.mails.take (i + 1)).map encMail) = (b.mails.take i).map encMail ++ [encMail b.mails[i]] := by rw [take_snoc _ _ hi, List.map_append]; rfl
      simp only [icS, icO, e8, Prod.exists, Four.ex]
      generalize (b.mails.take i).map encMail = rr at *
      simp only [encMail, encMailO] at h2
      simp (maxSteps := 1000000) [impl_copyBox.l0, List.range_succ, bs_get, setAt, hi, h2, e5, e6, e7, encMail, List.take_of_length_le]
      exact ⟨_, _, _, _, _, ⟨rfl, rfl, rfl⟩, ⟨rfl, rfl, rfl, rfl⟩, rfl⟩)
    (fun x => by
      obtain ⟨⟨v1, v2, v3, n⟩, v4⟩ := x
      simp only [Prod.exists, Four.ex]
      simp (maxSteps := 1000000) [impl_copyBox.l0, List.range_succ, bs_get, setAt, icS, icE, icO]
      exact ⟨_, _, _, _, _, ⟨rfl, rfl, rfl⟩, ⟨rfl, rfl, rfl, rfl⟩, rfl⟩)
  have e7 : (b.mails.map encMail).length = b.mails.length := by simp
  have e8 := irow_length b.gone
  have e9 : b.mails.take b.mails.length = b.mails := by simp
  simp only [ints] at h1
  simp only [icS, icE, icO, e9, List.take_zero, List.map_nil, ints] at hr
  replace hr := fun a b c d n => hr ⟨⟨a, b, c, d⟩, n⟩
  simp only [encBox, encBoxO, mails, ints] at hr ⊢
  generalize b.mails.map encMail = rm at *
  generalize irow b.gone = rg at *
  simp at hr
  simp (maxSteps := 1000000) [exB, impl_copyBox.m, impl_copyBox.b, List.range_succ, bs_get, setAt, hr, h1, e7, e8, List.take_of_length_le]
def scO (b : Box) (i : Nat) (x : Four × Nat) : List (Nat × Ob) := [(1, ⟨x.1.a, 7, true, true, [encBox b]⟩), (2, ⟨x.1.b, 7, true, true, [bzero]⟩), (3, ⟨x.2, 7, true, true, [[I b.gid, S b.name, I b.time, I b.who, I b.next, .row 6 x.1.c 0 i, ints b.gone]]⟩), (6, ⟨x.1.c, 4, true, false, (b.mails.take i).map encMail⟩)]
def scS (b : Box) (i : Nat) (x : Four × Nat) : St := { t := [(1, .c (.ptr 1 x.1.a 0 0)), (2, .c (.ptr 2 x.1.b 0 0)), (3, .c (.ptr 3 x.2 0 0)), (4, .c (I i))], o := scO b i x, n := x.1.d }
def scE (b : Box) (x : Four × Nat) : St := { t := [(1, .c (.ptr 1 x.1.a 0 0)), (2, .c (.ptr 2 x.1.b 0 0)), (3, .c (.ptr 3 x.2 0 0)), (4, .c (I b.mails.length)), (12, .c (.bool false))], o := scO b b.mails.length x, n := x.1.d }
theorem spec_l06Copy.says (h : spec_l06Copy.k M) (b : Box) (hb : BoxIn b) : run M 180 [.a (encBox b)] [] = some (.a (encBoxO b), []) := by
  obtain ⟨h0, k2⟩ := h
  have hm := hb.m
  have hg := hb.g
  refine run_code (b := spec_l06Copy.m) h0 ⟨b.mails.length + 1, ?_⟩
  obtain ⟨g, hr⟩ := count_loop (f := exC (run M) (b.mails.length + 1) spec_l06Copy.l0) b.mails.length (scS b) 0 (scE b)
    (fun i hi x => by
      obtain ⟨⟨v1, v2, v3, n⟩, v4⟩ := x
      have h2 := spec_l05Copy.says k2 b.mails[i] (hb.f _ (List.getElem_mem hi))
      have e5 : IntKind.i64.wrap ((i : Int) + 1) = (i : Int) + 1 := wrap_i64 (by omega) (by omega)
      have e6 : i + 1 ≤ 4294967296 := by omega
      have e7 : ((b.mails.take i).map encMail).length = i := by simp; omega
      have e8 : ((b.mails.take (i + 1)).map encMail) = (b.mails.take i).map encMail ++ [encMail b.mails[i]] := by rw [take_snoc _ _ hi, List.map_append]; rfl
      simp only [scS, scO, e8, Prod.exists, Four.ex]
      generalize (b.mails.take i).map encMail = rr at *
      simp only [encMail, encMailO] at h2
      simp (maxSteps := 1000000) [spec_l06Copy.l0, List.range_succ, bs_get, setAt, hi, h2, e5, e6, e7, encMail, List.take_of_length_le]
      exact ⟨_, _, _, _, _, ⟨rfl, rfl, rfl⟩, ⟨rfl, rfl, rfl, rfl⟩, rfl⟩)
    (fun x => by
      obtain ⟨⟨v1, v2, v3, n⟩, v4⟩ := x
      simp only [Prod.exists, Four.ex]
      simp (maxSteps := 1000000) [spec_l06Copy.l0, List.range_succ, bs_get, setAt, scS, scE, scO]
      exact ⟨_, _, _, _, _, ⟨rfl, rfl, rfl⟩, ⟨rfl, rfl, rfl, rfl⟩, rfl⟩)
  have e7 : (b.mails.map encMail).length = b.mails.length := by simp
  have e8 := irow_length b.gone
  have e9 : b.mails.take b.mails.length = b.mails := by simp
  have e6 : b.gone.length ≤ 4294967296 := by omega
  simp only [scS, scE, scO, e9, List.take_zero, List.map_nil, ints] at hr
  replace hr := fun a b c d n => hr ⟨⟨a, b, c, d⟩, n⟩
  simp only [encBox, encBoxO, mails, ints] at hr ⊢
  generalize b.mails.map encMail = rm at *
  generalize irow b.gone = rg at *
  simp at hr
  simp (maxSteps := 1000000) [exB, spec_l06Copy.m, spec_l06Copy.b, List.range_succ, bs_get, setAt, hr, e6, e7, e8, List.take_of_length_le]
end Mx

namespace Mx
open Go
variable {M : Nat → Option Body}
def uidAt (l : List Mail) (i : Nat) : Int := match l[i]? with | some m => m.uid | none => 0
def keepsUid (a b : Box) (g : Int) : Bool := match mailO a.mails g with
  | none => false
  | some i => match mailO b.mails g with
    | some k => decide (uidAt a.mails i = uidAt b.mails k)
    | none => decide (b.next ≤ uidAt a.mails i)
theorem spec_KeepsUid.says (h : spec_KeepsUid.k M) (a b : Box) (g : Int) (ha : a.mails.length ≤ 1048576) (hb : b.mails.length ≤ 1048576) : run M 22 [.a (encBox a), .a (encBox b), .c (I g)] [] = some (.c (.bool (keepsUid a b g)), []) := by
  have h1 := spec_MailAt.says h.2 a g ha
  have h2 := spec_MailAt.says h.2 b g hb
  refine run_code (b := spec_KeepsUid.m) h.1 ⟨0, ?_⟩
  simp only [encBox] at h1 h2
  unfold keepsUid
  cases hi : mailO a.mails g with
  | none =>
    simp [hi, intO] at h1
    simp [exB, spec_KeepsUid.m, spec_KeepsUid.b, List.range_succ, h1]
  | some i =>
    have li := atO_lt _ _ _ _ _ hi
    simp [hi, intO] at h1
    have di : ¬ (i : Int) < 0 := by omega
    have ui : uidAt a.mails i = a.mails[i].uid := by simp [uidAt, li]
    cases hk : mailO b.mails g with
    | none =>
      simp [hk, intO] at h2
      simp [exB, spec_KeepsUid.m, spec_KeepsUid.b, List.range_succ, h1, h2, di, li, ui, encMail]
    | some k =>
      have lk := atO_lt _ _ _ _ _ hk
      have uk : uidAt b.mails k = b.mails[k].uid := by simp [uidAt, lk]
      simp [hk, intO] at h2
      simp [exB, spec_KeepsUid.m, spec_KeepsUid.b, List.range_succ, h1, h2, di, li, ui, lk, uk, encMail]
theorem impl_KeepsUid.says (h : impl_KeepsUid.k M) (a b : Box) (g : Int) (ha : a.mails.length ≤ 1048576) (hb : b.mails.length ≤ 1048576) : run M 23 [.a (encBox a), .a (encBox b), .c (I g)] [] = some (.c (.bool (keepsUid a b g)), []) := by
  have h1 := impl_MailAt.says h.2 a g ha
  have h2 := impl_MailAt.says h.2 b g hb
  refine run_code (b := impl_KeepsUid.m) h.1 ⟨0, ?_⟩
  simp only [encBox] at h1 h2
  unfold keepsUid
  cases hi : mailO a.mails g with
  | none =>
    simp [hi, intO] at h1
    simp [exB, impl_KeepsUid.m, impl_KeepsUid.b, List.range_succ, h1, h2]
  | some i =>
    have li := atO_lt _ _ _ _ _ hi
    simp [hi, intO] at h1
    have di : ¬ (i : Int) < 0 := by omega
    have ui : uidAt a.mails i = a.mails[i].uid := by simp [uidAt, li]
    cases hk : mailO b.mails g with
    | none =>
      simp [hk, intO] at h2
      simp [exB, impl_KeepsUid.m, impl_KeepsUid.b, List.range_succ, h1, h2, di, li, ui, encMail]
    | some k =>
      have lk := atO_lt _ _ _ _ _ hk
      have uk : uidAt b.mails k = b.mails[k].uid := by simp [uidAt, lk]
      simp [hk, intO] at h2
      by_cases c : a.mails[i].uid = b.mails[k].uid
      · simp [exB, impl_KeepsUid.m, impl_KeepsUid.b, List.range_succ, h1, h2, di, li, ui, lk, uk, encMail, c]
      · have c' : ¬ b.mails[k].uid = a.mails[i].uid := fun q => c q.symm
        simp [exB, impl_KeepsUid.m, impl_KeepsUid.b, List.range_succ, h1, h2, di, li, ui, lk, uk, encMail, c, c']
end Mx

namespace Mx
open Go
def insBy {α : Type} (k : α → Int) (acc : List α) (m : α) : List α := acc.filter (fun x => decide (k x ≤ k m)) ++ [m] ++ acc.filter (fun x => decide (k m < k x))
def sortBy {α : Type} (k : α → Int) (l : List α) : List α := l.foldl (insBy k) []
abbrev SortedBy {α : Type} (k : α → Int) (l : List α) : Prop := l.Pairwise fun x y => k x ≤ k y
theorem insBy_sorted {α : Type} {k : α → Int} {acc : List α} {m : α} (h : SortedBy k acc) : SortedBy k (insBy k acc m) := by
  simp only [insBy, SortedBy, List.pairwise_append, List.pairwise_singleton, List.mem_filter, decide_eq_true_eq, List.mem_singleton, List.mem_append]
  refine ⟨⟨h.filter _, trivial, ?_⟩, h.filter _, ?_⟩
  · rintro a ⟨_, ha⟩ b rfl; exact ha
  · rintro a (⟨_, ha⟩ | rfl) b ⟨_, hb⟩ <;> omega
theorem insBy_perm {α : Type} {k : α → Int} (acc : List α) (m : α) : (insBy k acc m).Perm (m :: acc) := by
  have : ∀ l : List α, (l.filter (fun x => decide (k x ≤ k m)) ++ l.filter (fun x => decide (k m < k x))).Perm l := by
    intro l
    have h := List.filter_append_perm (fun x => decide (k x ≤ k m)) l
    have e : (fun x => !decide (k x ≤ k m)) = fun x => decide (k m < k x) := by
      funext x; rw [Bool.eq_iff_iff]; simp
    rwa [e] at h
  refine List.Perm.trans ?_ ((this acc).cons m)
  unfold insBy
  rw [List.append_assoc]
  exact List.perm_middle
theorem foldBy_perm {α : Type} {k : α → Int} : ∀ (l acc : List α), (l.foldl (insBy k) acc).Perm (l ++ acc)
  | [], acc => List.Perm.refl _
  | x :: l, acc => by
    refine (foldBy_perm l (insBy k acc x)).trans ?_
    refine ((insBy_perm acc x).append_left l).trans ?_
    exact List.perm_middle
theorem foldBy_sorted {α : Type} {k : α → Int} : ∀ (l acc : List α), SortedBy k acc → SortedBy k (l.foldl (insBy k) acc)
  | [], acc, h => h
  | x :: l, acc, h => foldBy_sorted l _ (insBy_sorted h)
theorem sortBy_perm {α : Type} {k : α → Int} (l : List α) : (sortBy k l).Perm l := by unfold sortBy; simpa using foldBy_perm (k := k) l []
theorem sortBy_sorted {α : Type} {k : α → Int} (l : List α) : SortedBy k (sortBy k l) := foldBy_sorted l [] List.Pairwise.nil
theorem sortBy_mem {α : Type} {k : α → Int} {l : List α} {z : α} : z ∈ sortBy k l ↔ z ∈ l := (sortBy_perm l).mem_iff
theorem sortBy_len {α : Type} {k : α → Int} (l : List α) : (sortBy k l).length = l.length := (sortBy_perm l).length_eq
/-- ascending by a key, and the same things: the same -/
abbrev AscBy {α : Type} (k : α → Int) (l : List α) : Prop := l.Pairwise fun x y => k x < k y
theorem ascBy_ext {α : Type} {k : α → Int} : ∀ {a b : List α}, AscBy k a → AscBy k b → (∀ x, x ∈ a ↔ x ∈ b) → a = b
  | [], [], _, _, _ => rfl
  | [], y :: b, _, _, h => absurd ((h y).2 (List.mem_cons_self ..)) (by simp)
  | x :: a, [], _, _, h => absurd ((h x).1 (List.mem_cons_self ..)) (by simp)
  | x :: a, y :: b, ha, hb, h => by
    obtain ⟨ha1, ha2⟩ := List.pairwise_cons.1 ha
    obtain ⟨hb1, hb2⟩ := List.pairwise_cons.1 hb
    have e : x = y := by
      rcases List.mem_cons.1 ((h x).1 (List.mem_cons_self ..)) with q | q
      · exact q
      · rcases List.mem_cons.1 ((h y).2 (List.mem_cons_self ..)) with q' | q'
        · exact q'.symm
        · have := ha1 y q'; have := hb1 x q; omega
    subst e
    congr 1
    refine ascBy_ext ha2 hb2 fun z => ⟨fun hz => ?_, fun hz => ?_⟩
    · rcases List.mem_cons.1 ((h z).1 (List.mem_cons_of_mem _ hz)) with q | q
      · have := ha1 z hz; rw [q] at this; omega
      · exact q
    · rcases List.mem_cons.1 ((h z).2 (List.mem_cons_of_mem _ hz)) with q | q
      · have := hb1 z hz; rw [q] at this; omega
      · exact q
theorem asc_of_sorted {α : Type} {k : α → Int} : ∀ {l : List α}, SortedBy k l → (l.map k).Nodup → AscBy k l
  | [], _, _ => List.Pairwise.nil
  | x :: l, h, hn => by
    obtain ⟨h1, h2⟩ := List.pairwise_cons.1 h
    rw [List.map_cons, List.nodup_cons] at hn
    refine List.pairwise_cons.2 ⟨fun y hy => ?_, asc_of_sorted h2 hn.2⟩
    have := h1 y hy
    have : k x ≠ k y := fun e => hn.1 (by rw [e]; exact List.mem_map_of_mem hy)
    omega
def later (t w u x : Int) : Bool := decide (u < t) || (decide (t = u) && decide (x < w))
def joinReg (a b : Reg) : Reg := if later b.time b.who a.time a.who = true ∨ later a.time a.who b.time b.who = false ∧ a.val < b.val then b else a
def joinFlags (a b : List Reg) : List Reg := List.zipWith joinReg a b
def maxT (a b : List UInt8) : List UInt8 := if bless a b = true then b else a
def joinMail (a b : Mail) : Mail := if a.gid = b.gid then ⟨a.gid, Max.max a.uid b.uid, joinFlags a.flags b.flags, maxT a.text b.text⟩ else a
def mailIn (l : List Mail) (g : Int) : Option Mail := l.find? fun m => decide (m.gid = g)
theorem mailIn_some {l : List Mail} {g : Int} {m : Mail} (h : mailIn l g = some m) : m ∈ l ∧ m.gid = g := ⟨List.mem_of_find?_eq_some h, by simpa using List.find?_some h⟩
theorem mailIn_none {l : List Mail} {g : Int} : mailIn l g = none ↔ ∀ m ∈ l, m.gid ≠ g := by
  unfold mailIn; rw [List.find?_eq_none]; simp
theorem mailIn_mem {l : List Mail} (h : (l.map (·.gid)).Nodup) {m : Mail} (hm : m ∈ l) : mailIn l m.gid = some m := by
  induction l with
  | nil => simp at hm
  | cons x l ih =>
    rw [List.map_cons, List.nodup_cons] at h
    unfold mailIn at ih ⊢
    rw [List.find?_cons]
    rcases List.mem_cons.1 hm with rfl | hm
    · simp
    · have : x.gid ≠ m.gid := fun e => h.1 (by rw [e]; exact List.mem_map_of_mem hm)
      simp only [this, decide_false]
      exact ih h.2 hm
def gids (l : List Mail) : List Int := l.map (·.gid)
def joinM (a b : List Mail) (g : Int) : Mail := match mailIn a g, mailIn b g with
  | some x, some y => joinMail x y
  | some x, none => x
  | none, some y => y
  | none, none => ⟨0, 0, [], []⟩
def needs (a b : Box) (g : Int) : Bool := (holds a g && !keepsUid a b g) || (holds b g && !keepsUid b a g)
def stepJ (a b : Box) (s : List Mail × Int) (g : Int) : List Mail × Int :=
  if g ∈ a.gone ∨ g ∈ b.gone then s else
  if needs a b g = true then (insBy (·.uid) s.1 { joinM a.mails b.mails g with uid := s.2 }, s.2 + 1) else (insBy (·.uid) s.1 (joinM a.mails b.mails g), s.2)
/-- the other side's way -/
def joinedS (a b : Box) : List Mail × Int := (joinGone (gids a.mails) (gids b.mails)).foldl (stepJ a b) ([], Max.max a.next b.next)
/-- this side's way -/
def allM (a b : List Mail) : List Mail := a.map (fun m => match mailIn b m.gid with | some y => joinMail m y | none => m) ++ b.filter (fun m => (mailIn a m.gid).isNone)
def assignU (need : Int → Bool) : Int → List Mail → List Mail × Int
  | n, [] => ([], n)
  | n, m :: l => if need m.gid = true then ({ m with uid := n } :: (assignU need (n + 1) l).1, (assignU need (n + 1) l).2) else (m :: (assignU need n l).1, (assignU need n l).2)
def joinedI (a b : Box) : List Mail × Int :=
  let l := assignU (needs a b) (Max.max a.next b.next) (sortBy (·.gid) ((allM a.mails b.mails).filter fun m => !decide (m.gid ∈ joinGone a.gone b.gone)))
  (sortBy (·.uid) l.1, l.2)
theorem joinMail_gid (a b : Mail) : (joinMail a b).gid = a.gid := by unfold joinMail; split <;> rfl
theorem joinM_gid {a b : List Mail} {g : Int} (h : g ∈ gids a ∨ g ∈ gids b) : (joinM a b g).gid = g := by
  unfold joinM
  cases h1 : mailIn a g with
  | some x =>
    cases h2 : mailIn b g with
    | some y => simp only [joinMail_gid]; exact (mailIn_some h1).2
    | none => exact (mailIn_some h1).2
  | none =>
    cases h2 : mailIn b g with
    | some y => exact (mailIn_some h2).2
    | none =>
      exfalso
      rw [mailIn_none] at h1 h2
      rcases h with h | h
      · obtain ⟨m, hm, e⟩ := List.mem_map.1 h; exact h1 m hm e
      · obtain ⟨m, hm, e⟩ := List.mem_map.1 h; exact h2 m hm e
theorem allM_mem {a b : List Mail} (ha : (gids a).Nodup) (hb : (gids b).Nodup) {m : Mail} : m ∈ allM a b ↔ (m.gid ∈ gids a ∨ m.gid ∈ gids b) ∧ m = joinM a b m.gid := by
  simp only [allM, List.mem_append, List.mem_map, List.mem_filter]
  constructor
  · rintro (⟨x, hx, rfl⟩ | ⟨hm, hn⟩)
    · have h1 := mailIn_mem ha hx
      have hg : x.gid ∈ gids a := List.mem_map_of_mem hx
      cases h2 : mailIn b x.gid with
      | some y =>
        simp only [joinMail_gid]
        refine ⟨.inl hg, ?_⟩
        simp only [joinM, h1, h2]
      | none =>
        simp only
        refine ⟨.inl hg, ?_⟩
        simp only [joinM, h1, h2]
    · have h1 := mailIn_mem hb hm
      simp only [Option.isNone_iff_eq_none] at hn
      refine ⟨.inr (List.mem_map_of_mem hm), ?_⟩
      simp only [joinM, h1, hn]
  · rintro ⟨h, e⟩
    cases h1 : mailIn a m.gid with
    | some x =>
      left
      obtain ⟨k1, k2⟩ := mailIn_some h1
      refine ⟨x, k1, ?_⟩
      rw [e, k2]
      simp only [joinM, h1]
      cases h2 : mailIn b m.gid <;> rfl
    | none =>
      right
      cases h2 : mailIn b m.gid with
      | none =>
        exfalso
        rw [mailIn_none] at h1 h2
        rcases h with h | h
        · obtain ⟨m', hm, e⟩ := List.mem_map.1 h; exact h1 m' hm e
        · obtain ⟨m', hm, e⟩ := List.mem_map.1 h; exact h2 m' hm e
      | some y =>
        refine ⟨?_, by simp⟩
        have : m = y := by rw [e]; simp only [joinM, h1, h2]
        rw [this]; exact (mailIn_some h2).1
theorem allM_nodup {a b : List Mail} (ha : (gids a).Nodup) (hb : (gids b).Nodup) : (gids (allM a b)).Nodup := by
  have e1 : gids (a.map (fun m => match mailIn b m.gid with | some y => joinMail m y | none => m)) = gids a := by
    unfold gids; rw [List.map_map]
    apply List.map_congr_left
    intro m _
    simp only [Function.comp]
    split
    · exact joinMail_gid _ _
    · rfl
  unfold allM
  rw [gids, List.map_append]
  change (gids _ ++ gids _).Nodup
  rw [e1, List.nodup_append]
  refine ⟨ha, ?_, ?_⟩
  · exact hb.sublist (List.Sublist.map _ List.filter_sublist)
  · intro x hx y hy e
    subst e
    obtain ⟨m, hm, rfl⟩ := List.mem_map.1 hy
    rw [List.mem_filter] at hm
    simp only [Option.isNone_iff_eq_none, mailIn_none] at hm
    obtain ⟨m', hm', e⟩ := List.mem_map.1 hx
    exact hm.2 m' hm' e
theorem srt_eq {a b : Box} (ha : (gids a.mails).Nodup) (hb : (gids b.mails).Nodup) :
    sortBy (·.gid) ((allM a.mails b.mails).filter fun m => !decide (m.gid ∈ joinGone a.gone b.gone)) = ((joinGone (gids a.mails) (gids b.mails)).filter fun g => !decide (g ∈ joinGone a.gone b.gone)).map (joinM a.mails b.mails) := by
  refine ascBy_ext (k := fun m : Mail => m.gid) ?_ ?_ fun m => ?_
  · refine asc_of_sorted (sortBy_sorted _) ?_
    have hp := (sortBy_perm (k := fun m : Mail => m.gid) ((allM a.mails b.mails).filter fun m => !decide (m.gid ∈ joinGone a.gone b.gone))).map (fun m : Mail => m.gid)
    rw [hp.nodup_iff]
    exact (allM_nodup ha hb).sublist (List.Sublist.map _ List.filter_sublist)
  · rw [AscBy, List.pairwise_map]
    have h := (joinGone_asc (gids a.mails) (gids b.mails)).filter (fun g => !decide (g ∈ joinGone a.gone b.gone))
    refine List.Pairwise.imp_of_mem ?_ h
    intro x y hx hy hxy
    rw [List.mem_filter, joinGone_mem] at hx hy
    rw [joinM_gid hx.1, joinM_gid hy.1]
    exact hxy
  · rw [sortBy_mem, List.mem_filter, allM_mem ha hb, List.mem_map]
    constructor
    · rintro ⟨⟨h1, h2⟩, h3⟩
      exact ⟨m.gid, List.mem_filter.2 ⟨(joinGone_mem _ _ _).2 h1, h3⟩, h2.symm⟩
    · rintro ⟨g, hg, rfl⟩
      rw [List.mem_filter, joinGone_mem] at hg
      have := joinM_gid hg.1
      rw [this]
      exact ⟨⟨hg.1, rfl⟩, hg.2⟩
theorem fold_assign (a b : Box) : ∀ (gs : List Int) (acc : List Mail) (n : Int), (∀ g ∈ gs, g ∈ gids a.mails ∨ g ∈ gids b.mails) →
    gs.foldl (stepJ a b) (acc, n) = ((assignU (needs a b) n ((gs.filter fun g => !decide (g ∈ joinGone a.gone b.gone)).map (joinM a.mails b.mails))).1.foldl (insBy (·.uid)) acc, (assignU (needs a b) n ((gs.filter fun g => !decide (g ∈ joinGone a.gone b.gone)).map (joinM a.mails b.mails))).2)
  | [], acc, n, _ => by simp [assignU]
  | g :: gs, acc, n, h => by
    have ih := fun acc n => fold_assign a b gs acc n fun g hg => h g (List.mem_cons_of_mem _ hg)
    have hg := joinM_gid (h g (List.mem_cons_self ..))
    rw [List.foldl_cons, stepJ, List.filter_cons]
    by_cases c : g ∈ a.gone ∨ g ∈ b.gone
    · have c' : g ∈ joinGone a.gone b.gone := (joinGone_mem _ _ _).2 c
      rw [if_pos c, ih]
      simp [c']
    · have c' : ¬ g ∈ joinGone a.gone b.gone := fun q => c ((joinGone_mem _ _ _).1 q)
      rw [if_neg c]
      simp only [c', decide_false, Bool.not_false, if_true, List.map_cons, assignU, hg]
      by_cases c2 : needs a b g = true
      · rw [if_pos c2, if_pos c2, ih]; rfl
      · rw [if_neg c2, if_neg c2, ih]; rfl
theorem joined_eq {a b : Box} (ha : (gids a.mails).Nodup) (hb : (gids b.mails).Nodup) : joinedI a b = joinedS a b := by
  unfold joinedI joinedS
  rw [srt_eq ha hb, fold_assign a b _ _ _ fun g hg => (joinGone_mem _ _ _).1 hg]
  rfl
/-- what two boxes come to -/
def joinBox (a b : Box) : Box := if a.gid = b.gid then
    { gid := a.gid, name := if later b.time b.who a.time a.who = true ∨ later a.time a.who b.time b.who = false ∧ bless a.name b.name = true then b.name else a.name,
      time := if later b.time b.who a.time a.who = true ∨ later a.time a.who b.time b.who = false ∧ bless a.name b.name = true then b.time else a.time,
      who := if later b.time b.who a.time a.who = true ∨ later a.time a.who b.time b.who = false ∧ bless a.name b.name = true then b.who else a.who,
      next := (joinedS a b).2, mails := (joinedS a b).1, gone := joinGone a.gone b.gone } else a
end Mx

namespace Mx
open Go
variable {M : Nat → Option Body}
theorem impl_Later.says (h : impl_Later.k M) (t w u x : Int) : run M 275 [.a [I t, I w], .a [I u, I x]] [] = some (.c (.bool (later t w u x)), []) := by
  refine run_code (b := impl_Later.m) h ⟨0, ?_⟩
  unfold later
  by_cases c1 : u < t
  · simp (maxSteps := 1000000) [exB, impl_Later.m, impl_Later.b, List.range_succ, bs_get, setAt, c1]
  by_cases c2 : t = u
  · subst c2; simp (maxSteps := 1000000) [exB, impl_Later.m, impl_Later.b, List.range_succ, bs_get, setAt]
  · simp (maxSteps := 1000000) [exB, impl_Later.m, impl_Later.b, List.range_succ, bs_get, setAt, c1, c2]
theorem spec_Later.says (h : spec_Later.k M) (t w u x : Int) : run M 277 [.a [I t, I w], .a [I u, I x]] [] = some (.c (.bool (later t w u x)), []) := by
  refine run_code (b := spec_Later.m) h ⟨0, ?_⟩
  unfold later
  by_cases c2 : t = u
  · subst c2; simp (maxSteps := 1000000) [exB, spec_Later.m, spec_Later.b, List.range_succ, bs_get, setAt]
  · simp (maxSteps := 1000000) [exB, spec_Later.m, spec_Later.b, List.range_succ, bs_get, setAt, c2]
end Mx

namespace Mx
open Go
theorem later_iff {t w u x : Int} : later t w u x = true ↔ u < t ∨ t = u ∧ x < w := by
  simp [later]
theorem later_not {t w u x : Int} : later t w u x = false ↔ ¬ (u < t ∨ t = u ∧ x < w) := by
  rw [← later_iff]; simp
theorem bless_self : ∀ a, bless a a = false
  | [] => rfl
  | x :: a => by simp [bless, bless_self a]
theorem bless_tri : ∀ a b, bless a b = true ∧ bless b a = false ∨ bless a b = false ∧ bless b a = true ∨ bless a b = false ∧ bless b a = false ∧ a = b
  | [], [] => by simp [bless]
  | [], _ :: _ => by simp [bless]
  | _ :: _, [] => by simp [bless]
  | x :: a, y :: b => by
    have ih := bless_tri a b
    simp only [bless]
    by_cases h1 : x < y
    · have h2 : ¬ y < x := by rw [UInt8.lt_iff_toNat_lt] at *; omega
      have h3 : (y == x) = false := by
        rw [beq_eq_false_iff_ne]; rintro rfl; exact h2 h1
      left; simp [h1, h2, h3]
    · by_cases h2 : y < x
      · have h3 : (x == y) = false := by
          rw [beq_eq_false_iff_ne]; rintro rfl; exact h1 h2
        right; left; simp [h1, h2, h3]
      · have h3 : x = y := by
          rw [← UInt8.toNat_inj]; rw [UInt8.lt_iff_toNat_lt] at *; omega
        subst h3
        simpa [h1] using ih
end Mx

namespace Mx
open Go
variable {M : Nat → Option Body}
theorem impl_JoinReg.says (h : impl_JoinReg.k M) (a b : Reg) : run M 485 [.a (encReg a), .a (encReg b)] [] = some (.a (encReg (joinReg a b)), []) := by
  obtain ⟨h0, k1⟩ := h
  have h1 := impl_Later.says k1 b.time b.who a.time a.who
  have h2 := impl_Later.says k1 a.time a.who b.time b.who
  refine run_code (b := impl_JoinReg.m) h0 ⟨0, ?_⟩
  unfold joinReg
  generalize later b.time b.who a.time a.who = x at *
  generalize later a.time a.who b.time b.who = y at *
  by_cases c : a.val < b.val
  · cases x <;> cases y <;> simp (maxSteps := 1000000) [exB, impl_JoinReg.m, impl_JoinReg.b, List.range_succ, bs_get, setAt, h1, h2, encReg, c]
  · cases x <;> cases y <;> simp (maxSteps := 1000000) [exB, impl_JoinReg.m, impl_JoinReg.b, List.range_succ, bs_get, setAt, h1, h2, encReg, c]
theorem joinReg_spec (a b : Reg) : joinReg a b = if later a.time a.who b.time b.who = true ∨ (a.time = b.time ∧ a.who = b.who) ∧ b.val ≤ a.val then a else b := by
  unfold joinReg
  simp only [later_iff, later_not]
  by_cases h1 : a.time < b.time ∨ b.time = a.time ∧ a.who < b.who
  · rw [if_pos (.inl h1), if_neg (by omega)]
  · by_cases h2 : b.time < a.time ∨ a.time = b.time ∧ b.who < a.who
    · rw [if_neg (by omega), if_pos (.inl h2)]
    · by_cases h3 : a.val < b.val
      · rw [if_pos (.inr ⟨h2, h3⟩), if_neg (by omega)]
      · rw [if_neg (by omega), if_pos (by omega)]
set_option maxHeartbeats 1000000 in
theorem spec_JoinReg.says (h : spec_JoinReg.k M) (a b : Reg) : run M 488 [.a (encReg a), .a (encReg b)] [] = some (.a (encReg (joinReg a b)), []) := by
  obtain ⟨h0, k1⟩ := h
  have h2 := spec_Later.says k1 a.time a.who b.time b.who
  refine run_code (b := spec_JoinReg.m) h0 ⟨0, ?_⟩
  rw [joinReg_spec]
  obtain ⟨av, t, w⟩ := a
  obtain ⟨bv, u, x⟩ := b
  simp only at *
  generalize later t w u x = y at *
  by_cases c2 : t = u
  · subst c2
    by_cases c3 : w = x
    · subst c3
      by_cases c : bv ≤ av <;> cases y <;> simp (maxSteps := 1000000) [exB, spec_JoinReg.m, spec_JoinReg.b, List.range_succ, bs_get, setAt, h2, encReg, c]
    · cases y <;> simp (maxSteps := 1000000) [exB, spec_JoinReg.m, spec_JoinReg.b, List.range_succ, bs_get, setAt, h2, encReg, c3]
  · cases y <;> simp (maxSteps := 1000000) [exB, spec_JoinReg.m, spec_JoinReg.b, List.range_succ, bs_get, setAt, h2, encReg, c2]
theorem joinFlags_len (a b : List Reg) : (joinFlags a b).length = Min.min a.length b.length := by simp [joinFlags]
def jfS (a b : List Reg) (i : Nat) (x : Nat × Nat) : St := { t := [(0, .c (regs a)), (1, .c (regs b)), (5, .c (.row 7 x.1 0 i)), (6, .c (I i))], o := [(7, ⟨x.1, 3, true, false, ((joinFlags a b).take i).map encReg⟩)], n := x.2 }
def jfE (a b : List Reg) (x : Nat × Nat) : St := { t := [(0, .c (regs a)), (1, .c (regs b)), (5, .c (.row 7 x.1 0 (Min.min a.length b.length))), (6, .c (I (Min.min a.length b.length : Nat))), (17, .c (.bool false))], o := [(7, ⟨x.1, 3, true, false, ((joinFlags a b).take (Min.min a.length b.length)).map encReg⟩)], n := x.2 }
theorem impl_JoinFlags.says (h : impl_JoinFlags.k M) (a b : List Reg) (ha : a.length ≤ 1048576) (hb : b.length ≤ 1048576) : run M 470 [.c (regs a), .c (regs b)] [] = some (.c (.sl true 3 ((joinFlags a b).map encReg)), []) := by
  obtain ⟨h0, k1⟩ := h
  refine run_code (b := impl_JoinFlags.m) h0 ⟨Min.min a.length b.length + 1, ?_⟩
  have hlen := joinFlags_len a b
  obtain ⟨g, hr⟩ := count_loop (f := exC (run M) (Min.min a.length b.length + 1) impl_JoinFlags.l0) (Min.min a.length b.length) (jfS a b) 0 (jfE a b)
    (fun i hi x => by
      obtain ⟨v, n⟩ := x
      have hia : i < a.length := by omega
      have hib : i < b.length := by omega
      have h1 := impl_JoinReg.says k1 a[i] b[i]
      have e5 : IntKind.i64.wrap ((i : Int) + 1) = (i : Int) + 1 := wrap_i64 (by omega) (by omega)
      have e6 : i + 1 ≤ 4294967296 := by omega
      have e7 : (((joinFlags a b).take i).map encReg).length = i := by simp [hlen]; omega
      have e8 : (((joinFlags a b).take (i + 1)).map encReg) = ((joinFlags a b).take i).map encReg ++ [encReg (joinReg a[i] b[i])] := by
        rw [take_snoc _ _ (by rw [hlen]; exact hi), List.map_append]; simp [joinFlags]
      simp only [jfS, e8, Prod.exists]
      generalize ((joinFlags a b).take i).map encReg = rr at *
      simp only [encReg] at h1
      simp (maxSteps := 1000000) [impl_JoinFlags.l0, List.range_succ, bs_get, setAt, regs, hia, hib, h1, e5, e6, e7, encReg, List.take_of_length_le])
    (fun x => by
      obtain ⟨v, n⟩ := x
      simp only [Prod.exists]
      by_cases c : a.length ≤ b.length
      · have e : Min.min a.length b.length = a.length := by omega
        simp only [jfS, jfE, e]
        simp (maxSteps := 1000000) [impl_JoinFlags.l0, List.range_succ, bs_get, setAt, regs]
      · have e : Min.min a.length b.length = b.length := by omega
        have c2 : b.length < a.length := by omega
        simp only [jfS, jfE, e]
        simp (maxSteps := 1000000) [impl_JoinFlags.l0, List.range_succ, bs_get, setAt, regs, c2])
  have hr0 := hr (2000016, 2000064)
  obtain ⟨v, n⟩ := g (2000016, 2000064)
  have e9 : (joinFlags a b).take (Min.min a.length b.length) = joinFlags a b := List.take_of_length_le (by omega)
  have e10 : ((joinFlags a b).map encReg).length = Min.min a.length b.length := by simp [hlen]
  simp only [jfS, jfE, e9, List.take_zero, List.map_nil] at hr0
  generalize (joinFlags a b).map encReg = rr at *
  generalize Min.min a.length b.length = k at *
  simp at hr0
  simp (maxSteps := 1000000) [exB, impl_JoinFlags.m, impl_JoinFlags.b, List.range_succ, bs_get, setAt, hr0, e10, List.take_of_length_le]
theorem spec_JoinFlags.says (h : spec_JoinFlags.k M) (a b : List Reg) (ha : a.length ≤ 1048576) (hb : b.length ≤ 1048576) : run M 472 [.c (regs a), .c (regs b)] [] = some (.c (.sl true 3 ((joinFlags a b).map encReg)), []) := by
  obtain ⟨h0, k1⟩ := h
  refine run_code (b := spec_JoinFlags.m) h0 ⟨Min.min a.length b.length + 1, ?_⟩
  have hlen := joinFlags_len a b
  obtain ⟨g, hr⟩ := count_loop (f := exC (run M) (Min.min a.length b.length + 1) spec_JoinFlags.l0) (Min.min a.length b.length) (jfS a b) 0 (jfE a b)
    (fun i hi x => by
      obtain ⟨v, n⟩ := x
      have hia : i < a.length := by omega
      have hib : i < b.length := by omega
      have h1 := spec_JoinReg.says k1 a[i] b[i]
      have e5 : IntKind.i64.wrap ((i : Int) + 1) = (i : Int) + 1 := wrap_i64 (by omega) (by omega)
      have e6 : i + 1 ≤ 4294967296 := by omega
      have e7 : (((joinFlags a b).take i).map encReg).length = i := by simp [hlen]; omega
      have e8 : (((joinFlags a b).take (i + 1)).map encReg) = ((joinFlags a b).take i).map encReg ++ [encReg (joinReg a[i] b[i])] := by
        rw [take_snoc _ _ (by rw [hlen]; exact hi), List.map_append]; simp [joinFlags]
      simp only [jfS, e8, Prod.exists]
      generalize ((joinFlags a b).take i).map encReg = rr at *
      simp only [encReg] at h1
      simp (maxSteps := 1000000) [spec_JoinFlags.l0, List.range_succ, bs_get, setAt, regs, hia, hib, h1, e5, e6, e7, encReg, List.take_of_length_le])
    (fun x => by
      obtain ⟨v, n⟩ := x
      simp only [Prod.exists]
      by_cases c : a.length ≤ b.length
      · have e : Min.min a.length b.length = a.length := by omega
        simp only [jfS, jfE, e]
        simp (maxSteps := 1000000) [spec_JoinFlags.l0, List.range_succ, bs_get, setAt, regs]
      · have e : Min.min a.length b.length = b.length := by omega
        have c2 : b.length < a.length := by omega
        simp only [jfS, jfE, e]
        simp (maxSteps := 1000000) [spec_JoinFlags.l0, List.range_succ, bs_get, setAt, regs, c2])
  have hr0 := hr (2000016, 2000064)
  obtain ⟨v, n⟩ := g (2000016, 2000064)
  have e9 : (joinFlags a b).take (Min.min a.length b.length) = joinFlags a b := List.take_of_length_le (by omega)
  have e10 : ((joinFlags a b).map encReg).length = Min.min a.length b.length := by simp [hlen]
  simp only [jfS, jfE, e9, List.take_zero, List.map_nil] at hr0
  generalize (joinFlags a b).map encReg = rr at *
  generalize Min.min a.length b.length = k at *
  simp at hr0
  simp (maxSteps := 1000000) [exB, spec_JoinFlags.m, spec_JoinFlags.b, List.range_succ, bs_get, setAt, hr0, e10, List.take_of_length_le]
theorem bless_gtr (a b : List UInt8) : (!bless b a && !decide (b = a)) = bless a b := by
  rcases bless_tri a b with ⟨h1, h2⟩ | ⟨h1, h2⟩ | ⟨h1, h2, h3⟩
  · have : ¬ b = a := by rintro rfl; rw [bless_self] at h1; cases h1
    simp [h1, h2, this]
  · simp [h1, h2]
  · simp [h3, bless_self]
theorem joinMail_flags (a b : Mail) : (joinMail a b).flags.length ≤ a.flags.length := by
  unfold joinMail
  split
  · simp only [joinFlags_len]; omega
  · exact Nat.le_refl _
theorem impl_JoinMail.says (h : impl_JoinMail.k M) (a b : Mail) (ha : a.flags.length ≤ 1048576) (hb : b.flags.length ≤ 1048576) : run M 452 [.a (encMail a), .a (encMail b)] [] = some (.a (encMailO (joinMail a b)), []) := by
  obtain ⟨h0, k1, k2⟩ := h
  have h1 := impl_copyMail.says k1 a ha
  have h2 := impl_JoinFlags.says k2 a.flags b.flags ha hb
  refine run_code (b := impl_JoinMail.m) h0 ⟨0, ?_⟩
  unfold joinMail
  by_cases c : a.gid = b.gid
  · rw [if_pos c]
    simp only [encMail, encMailO, regs, maxT] at *
    have e1 : ((joinFlags a.flags b.flags).map encReg).length = (joinFlags a.flags b.flags).length := by simp
    generalize (joinFlags a.flags b.flags).map encReg = rf at *
    generalize a.flags.map encReg = ra at *
    generalize b.flags.map encReg = rb at *
    have e2 : Max.max a.uid b.uid = if b.uid > a.uid then b.uid else a.uid := by split <;> omega
    rw [e2]
    by_cases c2 : a.uid < b.uid
    · cases c3 : bless a.text b.text <;> simp (maxSteps := 1000000) [exB, impl_JoinMail.m, impl_JoinMail.b, List.range_succ, bs_get, setAt, h2, c, c2, c3, e1, max2, List.take_of_length_le]
    · cases c3 : bless a.text b.text <;> simp (maxSteps := 1000000) [exB, impl_JoinMail.m, impl_JoinMail.b, List.range_succ, bs_get, setAt, h2, c, c2, c3, e1, max2, List.take_of_length_le]
  · rw [if_neg c]
    have e1 : (a.flags.map encReg).length = a.flags.length := by simp
    simp only [encMail, encMailO, regs] at *
    generalize a.flags.map encReg = ra at *
    generalize b.flags.map encReg = rb at *
    simp (maxSteps := 1000000) [exB, impl_JoinMail.m, impl_JoinMail.b, List.range_succ, bs_get, setAt, h1, c, e1, List.take_of_length_le]
set_option maxHeartbeats 1000000 in
theorem spec_JoinMail.says (h : spec_JoinMail.k M) (a b : Mail) (ha : a.flags.length ≤ 1048576) (hb : b.flags.length ≤ 1048576) : run M 461 [.a (encMail a), .a (encMail b)] [] = some (.a (encMailO (joinMail a b)), []) := by
  obtain ⟨h0, k1, k2⟩ := h
  have h1 := spec_l05Copy.says k1 a ha
  have h2 := spec_JoinFlags.says k2 a.flags b.flags ha hb
  refine run_code (b := spec_JoinMail.m) h0 ⟨0, ?_⟩
  unfold joinMail
  by_cases c : a.gid = b.gid
  · rw [if_pos c]
    simp only [encMail, encMailO, regs, maxT] at *
    have e1 : ((joinFlags a.flags b.flags).map encReg).length = (joinFlags a.flags b.flags).length := by simp
    have e3 : (a.flags.map encReg).length = a.flags.length := by simp
    generalize (joinFlags a.flags b.flags).map encReg = rf at *
    generalize a.flags.map encReg = ra at *
    generalize b.flags.map encReg = rb at *
    have e2 : Max.max a.uid b.uid = if a.uid < b.uid then b.uid else a.uid := by split <;> omega
    rw [e2]
    rw [c] at h1
    have e4 := bless_gtr a.text b.text
    by_cases c2 : a.uid < b.uid
    · cases c3 : bless a.text b.text <;> simp (maxSteps := 1000000) [exB, spec_JoinMail.m, spec_JoinMail.b, List.range_succ, bs_get, setAt, h1, h2, c, c2, c3, e1, e3, e4, List.take_of_length_le]
    · cases c3 : bless a.text b.text <;> simp (maxSteps := 1000000) [exB, spec_JoinMail.m, spec_JoinMail.b, List.range_succ, bs_get, setAt, h1, h2, c, c2, c3, e1, e3, e4, List.take_of_length_le]
  · rw [if_neg c]
    have e1 : (a.flags.map encReg).length = a.flags.length := by simp
    simp only [encMail, encMailO, regs] at *
    generalize a.flags.map encReg = ra at *
    generalize b.flags.map encReg = rb at *
    simp (maxSteps := 1000000) [exB, spec_JoinMail.m, spec_JoinMail.b, List.range_succ, bs_get, setAt, h1, c, e1, List.take_of_length_le]
end Mx

namespace Mx
open Go
/-- a loop whose rounds are told by an invariant alone -/
theorem loop_ex {σ : Type} {f : St → Option (Out × St)} (S : σ → St) (Inv : σ → Prop) (μ : σ → Nat) (Post : Out × St → Prop)
    (h : ∀ s, Inv s → (∃ s', f (S s) = some (.normal, S s') ∧ Inv s' ∧ μ s' < μ s) ∨ (∃ r, f (S s) = some r ∧ r.1 ≠ .normal ∧ Post r)) :
    ∀ m s, Inv s → μ s < m → ∃ r, loopN f m (S s) = some r ∧ Post r
  | 0, s, _, hm => by omega
  | m + 1, s, hi, hm => by
    rcases h s hi with ⟨s', h1, h2, h3⟩ | ⟨⟨o, r⟩, h1, h2, h3⟩
    · obtain ⟨r, q1, q2⟩ := loop_ex S Inv μ Post h m s' h2 (by omega)
      exact ⟨r, by simp only [loopN, h1]; exact q1, q2⟩
    · refine ⟨(o, r), ?_, h3⟩
      simp only [loopN, h1]
      cases o with
      | normal => exact (h2 rfl).elim
      | _ => rfl
end Mx

namespace Mx
open Go
variable {M : Nat → Option Body}
def cmpI (x y : Int) : Int := if x < y then -1 else if y < x then 1 else 0
theorem cmpI_neg {x y : Int} : cmpI x y < 0 ↔ x < y := by unfold cmpI; split <;> (try split) <;> omega
theorem impl_compare.says (h : impl_compare.k M) (x y : Int) : run M 457 [.c (I x), .c (I y)] [] = some (.c (I (cmpI x y)), []) := by
  refine run_code (b := impl_compare.m) h ⟨0, ?_⟩
  unfold cmpI
  by_cases c : x < y
  · simp (maxSteps := 1000000) [exB, impl_compare.m, impl_compare.b, List.range_succ, bs_get, setAt, c]
  · by_cases c2 : y < x
    · simp (maxSteps := 1000000) [exB, impl_compare.m, impl_compare.b, List.range_succ, bs_get, setAt, c, c2]
    · simp (maxSteps := 1000000) [exB, impl_compare.m, impl_compare.b, List.range_succ, bs_get, setAt, c, c2]
theorem impl_joined_2.says (h : impl_joined_2.k M) (x y : Mail) : run M 456 [.a (encMail x), .a (encMail y)] [] = some (.c (I (cmpI x.gid y.gid)), []) := by
  have h1 := impl_compare.says h.2 x.gid y.gid
  refine run_code (b := impl_joined_2.m) h.1 ⟨0, ?_⟩
  simp (maxSteps := 1000000) [exB, impl_joined_2.m, impl_joined_2.b, List.range_succ, bs_get, setAt, h1, encMail]
theorem impl_joined_3.says (h : impl_joined_3.k M) (x y : Mail) : run M 458 [.a (encMail x), .a (encMail y)] [] = some (.c (I (cmpI x.uid y.uid)), []) := by
  have h1 := impl_compare.says h.2 x.uid y.uid
  refine run_code (b := impl_joined_3.m) h.1 ⟨0, ?_⟩
  simp (maxSteps := 1000000) [exB, impl_joined_3.m, impl_joined_3.b, List.range_succ, bs_get, setAt, h1, encMail]
/-- what comes behind an insertion from the right -/
theorem insBy_step {α : Type} {k : α → Int} (P : List α) (y x : α) (Q : List α) (h : k x < k y) : insBy k (P ++ [y]) x ++ Q = insBy k P x ++ (y :: Q) := by
  have h1 : ¬ k y ≤ k x := by omega
  simp [insBy, List.filter_append, h, h1]
theorem insBy_stop {α : Type} {k : α → Int} (P : List α) (x : α) (h : ∀ y ∈ P, k y ≤ k x) : insBy k P x = P ++ [x] := by
  have h1 : P.filter (fun z => decide (k z ≤ k x)) = P := List.filter_eq_self.2 fun y hy => by simpa using h y hy
  have h2 : P.filter (fun z => decide (k x < k z)) = [] := List.filter_eq_nil_iff.2 fun y hy => by have := h y hy; simp; omega
  simp [insBy, h1, h2]
structure IsS where
  j : Nat
  D : List Mail
  n : Nat
def isS (f N i : Nat) (Z : List (List T)) (s : IsS) : St := { t := [(0, .c (.row 0 0 0 N)), (1, .c (I 0)), (2, .c (I N)), (3, .c (.fn f [])), (8, .c (I i)), (9, .c (I s.j))], o := [(0, ⟨0, 4, true, false, s.D.map encMail ++ Z⟩)], n := s.n }
def isE (f N i : Nat) (Z : List (List T)) (s : IsS) : St := { t := [(0, .c (.row 0 0 0 N)), (1, .c (I 0)), (2, .c (I N)), (3, .c (.fn f [])), (8, .c (I i)), (9, .c (I s.j)), (34, .c (.bool false))], o := [(0, ⟨0, 4, true, false, s.D.map encMail ++ Z⟩)], n := s.n }
structure IsI (k : Mail → Int) (N : Nat) (R : List Mail) (s : IsS) : Prop where
  len : s.D.length = N
  lt : s.j < N
  e : ∃ P x Q, P.length = s.j ∧ s.D = P ++ x :: Q ∧ SortedBy k P ∧ insBy k P x ++ Q = R
theorem map_at {α β : Type} {f : α → β} {P Q : List α} {x : α} {l : List β} (h : l = (P ++ x :: Q).map f) (i : Nat) (hi : i = P.length) : ∀ hh, l[i]'hh = f x := by
  subst h; subst hi; intro hh; simp
set_option maxHeartbeats 2000000 in
theorem is_swap {f : Nat} {g u g' u' : Int} {fl fl' : List (List T)} {tx tx' : List UInt8} {c : Int}
    (hcmp : run M f [.a [I g, I u, .sl false 3 fl, S tx], .a [I g', I u', .sl false 3 fl', S tx']] [] = some (.c (I c), [])) (hc : c < 0) (m N i j p : Nat) (hN : N ≤ 1048576) (rr : List (List T)) (e1 : IntKind.i64.wrap ((j : Int) - 1) = (p : Int)) (hj : j < N) (hp : p < N) (h0 : 0 < j) (e2 : j < rr.length) (e3 : p < rr.length) (hne : ¬ j = p) (hne' : ¬ p = j)
    (a1 : ∀ hh, rr[p]'hh = [I g', I u', .sl false 3 fl', S tx']) (a2 : ∀ hh, rr[j]'hh = [I g, I u, .sl false 3 fl, S tx]) (n : Nat) :
    ∃ n', exC (run M) m slices_insertionSortCmpFunc_impl_Mail.l1 { t := [(0, .c (.row 0 0 0 N)), (1, .c (I 0)), (2, .c (I N)), (3, .c (.fn f [])), (8, .c (I i)), (9, .c (I j))], o := [(0, ⟨0, 4, true, false, rr⟩)], n := n } =
      some (.normal, { t := [(0, .c (.row 0 0 0 N)), (1, .c (I 0)), (2, .c (I N)), (3, .c (.fn f [])), (8, .c (I i)), (9, .c (I p))], o := [(0, ⟨0, 4, true, false, (rr.set j [I g', I u', .sl false 3 fl', S tx']).set p [I g, I u, .sl false 3 fl, S tx]⟩)], n := n' }) := by
  simp (maxSteps := 1000000) [slices_insertionSortCmpFunc_impl_Mail.l1, List.range_succ, bs_get, setAt, hcmp, hc, a1, a2, e1, e2, e3, hj, hp, h0, hne, hne']
set_option maxHeartbeats 2000000 in
theorem is_stop {f : Nat} {g u g' u' : Int} {fl fl' : List (List T)} {tx tx' : List UInt8} {c : Int}
    (hcmp : run M f [.a [I g, I u, .sl false 3 fl, S tx], .a [I g', I u', .sl false 3 fl', S tx']] [] = some (.c (I c), [])) (hc : ¬ c < 0) (m N i j p : Nat) (hN : N ≤ 1048576) (rr : List (List T)) (e1 : IntKind.i64.wrap ((j : Int) - 1) = (p : Int)) (hj : j < N) (hp : p < N) (h0 : 0 < j) (e2 : j < rr.length) (e3 : p < rr.length) (hne : ¬ j = p) (hne' : ¬ p = j)
    (a1 : ∀ hh, rr[p]'hh = [I g', I u', .sl false 3 fl', S tx']) (a2 : ∀ hh, rr[j]'hh = [I g, I u, .sl false 3 fl, S tx]) (n : Nat) :
    ∃ n', exC (run M) m slices_insertionSortCmpFunc_impl_Mail.l1 { t := [(0, .c (.row 0 0 0 N)), (1, .c (I 0)), (2, .c (I N)), (3, .c (.fn f [])), (8, .c (I i)), (9, .c (I j))], o := [(0, ⟨0, 4, true, false, rr⟩)], n := n } =
      some (.exit 2, { t := [(0, .c (.row 0 0 0 N)), (1, .c (I 0)), (2, .c (I N)), (3, .c (.fn f [])), (8, .c (I i)), (9, .c (I j)), (34, .c (.bool false))], o := [(0, ⟨0, 4, true, false, rr⟩)], n := n' }) := by
  simp (maxSteps := 1000000) [slices_insertionSortCmpFunc_impl_Mail.l1, List.range_succ, bs_get, setAt, hcmp, hc, a1, a2, e1, e2, e3, hj, hp, h0, hne, hne']
theorem is_nil {f : Nat} (m N i : Nat) (rr : List (List T)) (n : Nat) :
    ∃ n', exC (run M) m slices_insertionSortCmpFunc_impl_Mail.l1 { t := [(0, .c (.row 0 0 0 N)), (1, .c (I 0)), (2, .c (I N)), (3, .c (.fn f [])), (8, .c (I i)), (9, .c (I 0))], o := [(0, ⟨0, 4, true, false, rr⟩)], n := n } =
      some (.exit 2, { t := [(0, .c (.row 0 0 0 N)), (1, .c (I 0)), (2, .c (I N)), (3, .c (.fn f [])), (8, .c (I i)), (9, .c (I 0)), (34, .c (.bool false))], o := [(0, ⟨0, 4, true, false, rr⟩)], n := n' }) := by
  simp (maxSteps := 1000000) [slices_insertionSortCmpFunc_impl_Mail.l1, List.range_succ, bs_get, setAt]
theorem set_swap {α β : Type} (e : α → β) (P : List α) (x y : α) (Q : List α) : (((P ++ y :: x :: Q).map e).set (P.length + 1) (e y)).set P.length (e x) = (P ++ x :: y :: Q).map e := by
  apply List.ext_getElem
  · simp
  · intro q h1 h2
    simp only [List.getElem_set, List.map_append, List.map_cons, List.getElem_append, List.length_map]
    by_cases q1 : P.length = q
    · subst q1; simp
    · by_cases q2 : P.length + 1 = q
      · subst q2; have q4 : ¬ P.length + 1 < P.length := by omega
        have q5 : P.length + 1 - P.length = 1 := by omega
        simp [q4, q5]
      · by_cases q3 : q < P.length
        · simp [q1, q2, q3]
        · obtain ⟨w, rfl⟩ : ∃ w, q = P.length + 2 + w := ⟨q - P.length - 2, by omega⟩
          have : P.length + 2 + w - P.length = w + 2 := by omega
          simp [q1, q2, q3, this]
theorem is_turn {f : Nat} {k : Mail → Int} (hf : ∀ x y : Mail, run M f [.a (encMail x), .a (encMail y)] [] = some (.c (I (cmpI (k x) (k y))), [])) (m N i : Nat) (hN : N ≤ 1048576) (Z : List (List T)) (R : List Mail) (s : IsS) (hs : IsI k N R s) :
    (∃ s', exC (run M) m slices_insertionSortCmpFunc_impl_Mail.l1 (isS f N i Z s) = some (.normal, isS f N i Z s') ∧ IsI k N R s' ∧ s'.j < s.j) ∨
      (∃ r, exC (run M) m slices_insertionSortCmpFunc_impl_Mail.l1 (isS f N i Z s) = some r ∧ r.1 ≠ .normal ∧ ∃ s', r = (.exit 2, isE f N i Z s') ∧ s'.D = R) := by
  obtain ⟨j, D, n⟩ := s
  obtain ⟨hl, hj, P, x, Q, hP, hD, hsort, hR⟩ := hs
  simp only at hl hj hP hD
  rcases List.eq_nil_or_concat P with rfl | ⟨P', y, rfl⟩
  · right
    have hj0 : j = 0 := by simpa using hP.symm
    subst hj0
    obtain ⟨n', hh⟩ := is_nil (M := M) (f := f) m N i (D.map encMail ++ Z) n
    exact ⟨_, hh, by simp, ⟨0, D, n'⟩, rfl, by rw [← hR, hD]; simp [insBy]⟩
  · rw [List.concat_eq_append] at hP hD hsort hR
    have hlen : j = P'.length + 1 := by simpa using hP.symm
    have hDm : D.map encMail = (P' ++ y :: (x :: Q)).map encMail := by rw [hD]; simp
    have hDm2 : D.map encMail = ((P' ++ [y]) ++ x :: Q).map encMail := by rw [hD]
    have a1 : ∀ hh, (D.map encMail ++ Z)[P'.length]'hh = encMail y := by
      intro hh
      rw [List.getElem_append_left (by simp; omega)]
      exact map_at hDm P'.length rfl _
    have a2 : ∀ hh, (D.map encMail ++ Z)[j]'hh = encMail x := by
      intro hh
      rw [List.getElem_append_left (by simp; omega)]
      exact map_at hDm2 j (by simp [hlen]) _
    have hcmp := hf x y
    have e1 : IntKind.i64.wrap ((j : Int) - 1) = (P'.length : Int) := by rw [wrap_i64 (by omega) (by omega)]; omega
    by_cases c : k x < k y
    · left
      obtain ⟨n', hh⟩ := is_swap hcmp (cmpI_neg.2 c) m N i j P'.length hN (D.map encMail ++ Z) e1 hj (by omega) (by omega) (by simp; omega) (by simp; omega) (by omega) (by omega) a1 a2 n
      refine ⟨⟨P'.length, P' ++ x :: (y :: Q), n'⟩, ?_, ⟨by simp only; rw [hD] at hl; simp at hl ⊢; omega, by simp only; omega, P', x, y :: Q, rfl, rfl, (List.pairwise_append.1 hsort).1, by rw [← hR, insBy_step _ _ _ _ c]⟩, by simp only; omega⟩
      have hs := set_swap encMail P' x y Q
      simp only [isS]
      rw [← hs, ← hDm, ← hlen]
      rw [List.set_append_left _ _ (by simp; omega), List.set_append_left _ _ (by simp; omega)] at hh
      exact hh
    · right
      obtain ⟨n', hh⟩ := is_stop hcmp (fun q => c (cmpI_neg.1 q)) m N i j P'.length hN (D.map encMail ++ Z) e1 hj (by omega) (by omega) (by simp; omega) (by simp; omega) (by omega) (by omega) a1 a2 n
      refine ⟨_, hh, by simp, ⟨j, D, n'⟩, rfl, ?_⟩
      simp only
      rw [hD, ← hR, insBy_stop]
      · simp
      · intro z hz
        rcases List.mem_append.1 hz with q | q
        · have := (List.pairwise_append.1 hsort).2.2 z q y (by simp); omega
        · simp at q; subst q; omega
/-- the first i are in order -/
def sortTo (k : Mail → Int) (l : List Mail) (i : Nat) : List Mail := sortBy k (l.take i) ++ l.drop i
theorem sortTo_len (k : Mail → Int) (l : List Mail) (i : Nat) : (sortTo k l i).length = l.length := by
  simp only [sortTo, List.length_append, sortBy_len, List.length_take, List.length_drop]; omega
structure ItS where
  i : Nat
  n : Nat
def itS (f : Nat) (Z : List (List T)) (k : Mail → Int) (l : List Mail) (s : ItS) : St := { t := [(0, .c (.row 0 0 0 l.length)), (1, .c (I 0)), (2, .c (I l.length)), (3, .c (.fn f [])), (8, .c (I s.i))], o := [(0, ⟨0, 4, true, false, (sortTo k l s.i).map encMail ++ Z⟩)], n := s.n }
theorem it_turn {f : Nat} {k : Mail → Int} (hf : ∀ x y : Mail, run M f [.a (encMail x), .a (encMail y)] [] = some (.c (I (cmpI (k x) (k y))), [])) (m : Nat) (Z : List (List T)) (l : List Mail) (hN : l.length ≤ 1048576) (hm : l.length < m) (s : ItS) (hs : 1 ≤ s.i ∧ s.i < l.length) :
    ∃ n', exC (run M) m slices_insertionSortCmpFunc_impl_Mail.l0 (itS f Z k l s) = some (.normal, itS f Z k l ⟨s.i + 1, n'⟩) := by
  obtain ⟨i, n⟩ := s
  obtain ⟨h1, h2⟩ := hs
  simp only at h1 h2
  have htk : l.take (i + 1) = l.take i ++ [l[i]] := take_snoc l i h2
  have hdr : l.drop i = l[i] :: l.drop (i + 1) := List.drop_eq_getElem_cons h2
  have hR : insBy k (sortBy k (l.take i)) l[i] ++ l.drop (i + 1) = sortTo k l (i + 1) := by
    simp only [sortTo, htk]
    congr 1
    unfold sortBy
    rw [List.foldl_append]; rfl
  obtain ⟨r, hr, ⟨⟨j, D, n'⟩, rfl, hD⟩⟩ := loop_ex (f := exC (run M) m slices_insertionSortCmpFunc_impl_Mail.l1) (isS f l.length i Z) (IsI k l.length (sortTo k l (i + 1))) (fun s => s.j)
    (fun r => ∃ s', r = (.exit 2, isE f l.length i Z s') ∧ s'.D = sortTo k l (i + 1)) (fun s hs => is_turn hf m l.length i hN Z _ s hs) m ⟨i, sortTo k l i, n + 48 + 32⟩
    ⟨sortTo_len k l i, h2, sortBy k (l.take i), l[i], l.drop (i + 1), by rw [sortBy_len]; simp; omega, by simp only [sortTo, hdr], sortBy_sorted _, hR⟩ (by simp only; omega)
  simp only at hD
  subst hD
  simp only [isS, isE] at hr
  have e5 : IntKind.i64.wrap ((i : Int) + 1) = (i : Int) + 1 := wrap_i64 (by omega) (by omega)
  simp only [itS]
  generalize (sortTo k l i).map encMail ++ Z = r0 at *
  generalize (sortTo k l (i + 1)).map encMail ++ Z = r1 at *
  simp (maxSteps := 1000000) [slices_insertionSortCmpFunc_impl_Mail.l0, List.range_succ, bs_get, setAt, hr, h2, e5]
end Mx

namespace Mx
open Go
variable {M : Nat → Option Body}
def mRow (l : List Mail) (Z : List (List T)) : Nat × Ob := (0, ⟨0, 4, true, false, l.map encMail ++ Z⟩)
theorem sortTo_all (k : Mail → Int) (l : List Mail) : sortTo k l l.length = sortBy k l := by simp [sortTo]
theorem sortTo_one (k : Mail → Int) (l : List Mail) : sortTo k l 1 = l := by
  cases l with
  | nil => rfl
  | cons x l => simp [sortTo, sortBy, insBy]
def itE (f : Nat) (Z : List (List T)) (k : Mail → Int) (l : List Mail) (s : ItS) : St := { t := [(0, .c (.row 0 0 0 l.length)), (1, .c (I 0)), (2, .c (I l.length)), (3, .c (.fn f [])), (8, .c (I s.i)), (14, .c (.bool false))], o := [(0, ⟨0, 4, true, false, (sortTo k l s.i).map encMail ++ Z⟩)], n := s.n }
theorem it_end {f : Nat} {k : Mail → Int} (m : Nat) (Z : List (List T)) (l : List Mail) (i n : Nat) (h : l.length ≤ i) : ∃ n', exC (run M) m slices_insertionSortCmpFunc_impl_Mail.l0 (itS f Z k l ⟨i, n⟩) = some (.exit 0, itE f Z k l ⟨i, n'⟩) := by
  have h2 : ¬ i < l.length := by omega
  simp only [itS, itE]
  generalize (sortTo k l i).map encMail ++ Z = r0 at *
  simp (maxSteps := 1000000) [slices_insertionSortCmpFunc_impl_Mail.l0, List.range_succ, bs_get, setAt, h2]
theorem slices_insertionSortCmpFunc_impl_Mail.says (h : slices_insertionSortCmpFunc_impl_Mail.k M) {f : Nat} {k : Mail → Int} (hf : ∀ x y : Mail, run M f [.a (encMail x), .a (encMail y)] [] = some (.c (I (cmpI (k x) (k y))), []))
    (l : List Mail) (Z : List (List T)) (hN : l.length ≤ 1048576) : run M 486 [.c (.row 0 0 0 l.length), .c (I 0), .c (I l.length), .c (.fn f [])] [mRow l Z] = some (.tup [], [mRow (sortBy k l) Z]) := by
  refine run_code (b := slices_insertionSortCmpFunc_impl_Mail.m) h ⟨l.length + 1, ?_⟩
  obtain ⟨r, hr, ⟨⟨i, n'⟩, rfl, hi⟩⟩ := loop_ex (f := exC (run M) (l.length + 1) slices_insertionSortCmpFunc_impl_Mail.l0) (itS f Z k l) (fun s => 1 ≤ s.i ∧ (s.i ≤ l.length ∨ s.i = 1)) (fun s => l.length - s.i)
    (fun r => ∃ s', r = (.exit 0, itE f Z k l s') ∧ (s'.i = l.length ∨ l.length = 0 ∧ s'.i = 1))
    (fun s hs => by
      obtain ⟨i, n⟩ := s
      by_cases c : i < l.length
      · left
        obtain ⟨n', hh⟩ := it_turn hf (l.length + 1) Z l hN (by omega) ⟨i, n⟩ ⟨hs.1, c⟩
        exact ⟨_, hh, ⟨by simp only; omega, by simp only; omega⟩, by simp only; omega⟩
      · right
        obtain ⟨n', hh⟩ := it_end (M := M) (f := f) (k := k) (l.length + 1) Z l i n (by omega)
        simp only at hs
        exact ⟨_, hh, by simp, _, rfl, by simp only; omega⟩) (l.length + 1) ⟨1, 2000048⟩ ⟨by simp, by simp⟩ (by simp only; omega)
  have e1 : sortTo k l i = sortBy k l := by
    rcases hi with hi | ⟨h0, hi⟩
    · simp only at hi; rw [hi, sortTo_all]
    · have : l = [] := List.eq_nil_of_length_eq_zero h0
      subst this; simp [sortTo, sortBy]
  simp only [itS, itE, e1, sortTo_one] at hr
  have e2 : IntKind.i64.wrap 1 = 1 := by decide
  have e3 : ((1 : Nat) : Int) = 1 := rfl
  rw [e3] at hr
  simp only [mRow]
  generalize l.map encMail ++ Z = r0 at *
  generalize (sortBy k l).map encMail ++ Z = r1 at *
  simp (maxSteps := 1000000) [exB, slices_insertionSortCmpFunc_impl_Mail.m, slices_insertionSortCmpFunc_impl_Mail.b, List.range_succ, bs_get, setAt, hr, e2]
/-- from the end on there is nothing to be done -/
theorem slices_insertionSortCmpFunc_impl_Mail.rest (h : slices_insertionSortCmpFunc_impl_Mail.k M) {f : Nat} (l : List Mail) (Z : List (List T)) (hN : l.length ≤ 1048576) :
    run M 486 [.c (.row 0 0 0 l.length), .c (I l.length), .c (I l.length), .c (.fn f [])] [mRow l Z] = some (.tup [], [mRow l Z]) := by
  refine run_code (b := slices_insertionSortCmpFunc_impl_Mail.m) h ⟨1, ?_⟩
  have e2 : IntKind.i64.wrap ((l.length : Int) + 1) = (l.length : Int) + 1 := wrap_i64 (by omega) (by omega)
  have e3 : ¬ (l.length : Int) + 1 < l.length := by omega
  simp only [mRow]
  have e4 : l.length ≤ (l.map encMail ++ Z).length := by simp
  generalize l.map encMail ++ Z = r0 at *
  simp (maxSteps := 1000000) [exB, slices_insertionSortCmpFunc_impl_Mail.m, slices_insertionSortCmpFunc_impl_Mail.b, List.range_succ, bs_get, setAt, loopN, slices_insertionSortCmpFunc_impl_Mail.l0, e2, e3]
theorem slices_stableCmpFunc_impl_Mail.says (h : slices_stableCmpFunc_impl_Mail.k M) {f : Nat} {k : Mail → Int} (hf : ∀ x y : Mail, run M f [.a (encMail x), .a (encMail y)] [] = some (.c (I (cmpI (k x) (k y))), []))
    (l : List Mail) (Z : List (List T)) (hN : l.length ≤ 20) : run M 471 [.c (.row 0 0 0 l.length), .c (I l.length), .c (.fn f [])] [mRow l Z] = some (.tup [], [mRow (sortBy k l) Z]) := by
  obtain ⟨h0, k1⟩ := h
  have h1 := slices_insertionSortCmpFunc_impl_Mail.says k1 hf l Z (by omega)
  have h2 := slices_insertionSortCmpFunc_impl_Mail.rest k1 (f := f) (sortBy k l) Z (by rw [sortBy_len]; omega)
  rw [sortBy_len] at h2
  refine run_code (b := slices_stableCmpFunc_impl_Mail.m) h0 ⟨2, ?_⟩
  have e1 : l.length ≤ (l.map encMail ++ Z).length := by simp
  have e2 : l.length ≤ ((sortBy k l).map encMail ++ Z).length := by simp [sortBy_len]
  simp only [mRow] at h1 h2 ⊢
  generalize l.map encMail ++ Z = r0 at *
  generalize (sortBy k l).map encMail ++ Z = r1 at *
  by_cases c : l.length = 20
  · generalize l.length = N at *
    subst c
    simp only [Int.cast_ofNat_Int] at h1 h2
    have w1 : IntKind.i64.wrap 40 = 40 := by decide
    simp (maxSteps := 1000000) [exB, slices_stableCmpFunc_impl_Mail.m, slices_stableCmpFunc_impl_Mail.b, List.range_succ, bs_get, setAt, h1, h2, w1, loopN, slices_stableCmpFunc_impl_Mail.l0, slices_stableCmpFunc_impl_Mail.l1, e1, e2]
  · have c1 : ¬ (20 : Int) ≤ l.length := by omega
    have c2 : ¬ (20 : Int) < l.length := by omega
    have c3 : ¬ 20 ≤ l.length := by omega
    have c4 : ¬ 20 < l.length := by omega
    simp (maxSteps := 1000000) [exB, slices_stableCmpFunc_impl_Mail.m, slices_stableCmpFunc_impl_Mail.b, List.range_succ, bs_get, setAt, h1, h2, c1, c2, c3, c4, loopN, slices_stableCmpFunc_impl_Mail.l0, slices_stableCmpFunc_impl_Mail.l1, e1, e2]
theorem slices_SortStableFunc_impl_Mail_impl_Mail.says (h : slices_SortStableFunc_impl_Mail_impl_Mail.k M) {f : Nat} {k : Mail → Int} (hf : ∀ x y : Mail, run M f [.a (encMail x), .a (encMail y)] [] = some (.c (I (cmpI (k x) (k y))), []))
    (l : List Mail) (Z : List (List T)) (hN : l.length ≤ 20) : run M 455 [.c (.row 0 0 0 l.length), .c (.fn f [])] [mRow l Z] = some (.tup [], [mRow (sortBy k l) Z]) := by
  have h1 := slices_stableCmpFunc_impl_Mail.says h.2 hf l Z hN
  refine run_code (b := slices_SortStableFunc_impl_Mail_impl_Mail.m) h.1 ⟨0, ?_⟩
  have e1 : l.length ≤ (l.map encMail ++ Z).length := by simp
  simp only [mRow] at h1 ⊢
  generalize l.map encMail ++ Z = r0 at *
  generalize (sortBy k l).map encMail ++ Z = r1 at *
  simp (maxSteps := 1000000) [exB, slices_SortStableFunc_impl_Mail_impl_Mail.m, slices_SortStableFunc_impl_Mail_impl_Mail.b, List.range_succ, bs_get, setAt, h1, e1]
end Mx

namespace Mx
open Go
variable {M : Nat → Option Body}
def pAt {α : Type} (p : α → Bool) (l : List α) (i : Nat) : Bool := match l[i]? with | some m => p m | none => false
theorem pAt_at {α : Type} (p : α → Bool) (l : List α) (i : Nat) (h : i < l.length) : pAt p l i = p l[i] := by simp [pAt, h]
def igS (f : Nat) (cs : List T) (l : List Mail) (i : Nat) (x : Nat) : St := { t := [(0, .c (mails l)), (1, .c (.fn f [.vp cs 0])), (7, .c (I l.length)), (8, .c (I i))], o := [], n := x }
theorem slices_IndexFunc_impl_Mail_impl_Mail.gen (h : slices_IndexFunc_impl_Mail_impl_Mail.k M) {f : Nat} {cs : List T} {p : Mail → Bool} (hf : ∀ m, run M f [.a (encMail m), .c (.vp cs 0)] [] = some (.c (.bool (p m)), [])) (l : List Mail) (hl : l.length ≤ 1048576) :
    run M 161 [.c (mails l), .c (.fn f [.vp cs 0])] [] = some (.c (I (intO (firstN (pAt p l) l.length))), []) := by
  refine run_code (b := slices_IndexFunc_impl_Mail_impl_Mail.m) h ⟨l.length + 1, ?_⟩
  obtain ⟨g', hr⟩ := first_loop (f := exC (run M) (l.length + 1) slices_IndexFunc_impl_Mail_impl_Mail.l0) l.length (pAt p l) (igS f cs l) atFin atFin_ne
    (fun i hi x c => by
      have hm := hf l[i]
      rw [pAt_at p l i hi] at c
      rw [c] at hm
      have e5 : IntKind.i64.wrap ((i : Int) + 1) = (i : Int) + 1 := wrap_i64 (by omega) (by omega)
      simp [igS, slices_IndexFunc_impl_Mail_impl_Mail.l0, hi, hm, encMail, e5])
    (fun i hi x c => by
      have hm := hf l[i]
      rw [pAt_at p l i hi] at c
      rw [c] at hm
      simp [igS, slices_IndexFunc_impl_Mail_impl_Mail.l0, hi, hm, encMail, atFin]
      exact ⟨⟨[], [], _⟩, rfl⟩)
    (fun x => by simp [igS, slices_IndexFunc_impl_Mail_impl_Mail.l0, atFin])
  cases hm : firstN (pAt p l) l.length with
  | none =>
    simp [igS, hm, atFin] at hr
    simp [exB, slices_IndexFunc_impl_Mail_impl_Mail.m, slices_IndexFunc_impl_Mail_impl_Mail.b, List.range_succ, hr, intO]
  | some k =>
    simp [igS, hm, atFin] at hr
    simp [exB, slices_IndexFunc_impl_Mail_impl_Mail.m, slices_IndexFunc_impl_Mail_impl_Mail.b, List.range_succ, hr, intO]
theorem dl_keep {f : Nat} {cs : List T} {g u : Int} {fl : List (List T)} {tx : List UInt8} (hf : run M f [.a [I g, I u, .sl false 3 fl, S tx], .c (.vp cs 0)] [] = some (.c (.bool false), [])) (m N i j : Nat) (hN : N ≤ 1048576) (rr : List (List T)) (hj : j < N) (hi : i < N) (e2 : rr.length = N)
    (a1 : ∀ hh, rr[j]'hh = [I g, I u, .sl false 3 fl, S tx]) (n : Nat) (ri : List T) (a2 : rr[i]? = some ri) (a3 : ri.length = 4) :
    ∃ n', exC (run M) m slices_DeleteFunc_impl_Mail_impl_Mail.l0 { t := [(0, .c (.row 0 0 0 N)), (1, .c (.fn f [.vp cs 0])), (5, .c (I i)), (6, .c (I j))], o := [(0, ⟨0, 4, true, false, rr⟩)], n := n } =
      some (.normal, { t := [(0, .c (.row 0 0 0 N)), (1, .c (.fn f [.vp cs 0])), (5, .c (I (i + 1 : Nat))), (6, .c (I (j + 1 : Nat)))], o := [(0, ⟨0, 4, true, false, rr.set i [I g, I u, .sl false 3 fl, S tx]⟩)], n := n' }) := by
  have e5 : IntKind.i64.wrap ((i : Int) + 1) = (i : Int) + 1 := wrap_i64 (by omega) (by omega)
  have e6 : IntKind.i64.wrap ((j : Int) + 1) = (j : Int) + 1 := wrap_i64 (by omega) (by omega)
  match ri, a3 with
  | [r0, r1, r2, r3], _ =>
    have a4 : ∀ hh, rr[i]'hh = [r0, r1, r2, r3] := by
      intro hh; rw [List.getElem?_eq_getElem hh] at a2; exact Option.some.inj a2
    clear a2
    simp (maxSteps := 1000000) [slices_DeleteFunc_impl_Mail_impl_Mail.l0, List.range_succ, bs_get, setAt, hf, hj, hi, e2, a1, a4, e5, e6]
theorem dl_drop {f : Nat} {cs : List T} {g u : Int} {fl : List (List T)} {tx : List UInt8} (hf : run M f [.a [I g, I u, .sl false 3 fl, S tx], .c (.vp cs 0)] [] = some (.c (.bool true), [])) (m N i j : Nat) (hN : N ≤ 1048576) (rr : List (List T)) (hj : j < N) (e2 : rr.length = N)
    (a1 : ∀ hh, rr[j]'hh = [I g, I u, .sl false 3 fl, S tx]) (n : Nat) :
    ∃ n', exC (run M) m slices_DeleteFunc_impl_Mail_impl_Mail.l0 { t := [(0, .c (.row 0 0 0 N)), (1, .c (.fn f [.vp cs 0])), (5, .c (I i)), (6, .c (I j))], o := [(0, ⟨0, 4, true, false, rr⟩)], n := n } =
      some (.normal, { t := [(0, .c (.row 0 0 0 N)), (1, .c (.fn f [.vp cs 0])), (5, .c (I i)), (6, .c (I (j + 1 : Nat)))], o := [(0, ⟨0, 4, true, false, rr⟩)], n := n' }) := by
  have e6 : IntKind.i64.wrap ((j : Int) + 1) = (j : Int) + 1 := wrap_i64 (by omega) (by omega)
  simp (maxSteps := 1000000) [slices_DeleteFunc_impl_Mail_impl_Mail.l0, List.range_succ, bs_get, setAt, hf, hj, e2, a1, e6]
theorem dl_end {f : Nat} {cs : List T} (m N i j : Nat) (rr : List (List T)) (hj : ¬ j < N) (n : Nat) :
    ∃ n', exC (run M) m slices_DeleteFunc_impl_Mail_impl_Mail.l0 { t := [(0, .c (.row 0 0 0 N)), (1, .c (.fn f [.vp cs 0])), (5, .c (I i)), (6, .c (I j))], o := [(0, ⟨0, 4, true, false, rr⟩)], n := n } =
      some (.exit 0, { t := [(0, .c (.row 0 0 0 N)), (1, .c (.fn f [.vp cs 0])), (5, .c (I i)), (6, .c (I j)), (19, .c (.bool false))], o := [(0, ⟨0, 4, true, false, rr⟩)], n := n' }) := by
  simp (maxSteps := 1000000) [slices_DeleteFunc_impl_Mail_impl_Mail.l0, List.range_succ, bs_get, setAt, hj]
structure DlS where
  j : Nat
  D : List Mail
  n : Nat
def keptN (p : Mail → Bool) (l : List Mail) (j : Nat) : List Mail := (l.take j).filter fun m => !p m
def dlS (f : Nat) (cs : List T) (p : Mail → Bool) (l : List Mail) (s : DlS) : St := { t := [(0, .c (.row 0 0 0 l.length)), (1, .c (.fn f [.vp cs 0])), (5, .c (I (keptN p l s.j).length)), (6, .c (I s.j))], o := [(0, ⟨0, 4, true, false, s.D.map encMail⟩)], n := s.n }
def dlE (f : Nat) (cs : List T) (p : Mail → Bool) (l : List Mail) (s : DlS) : St := { t := [(0, .c (.row 0 0 0 l.length)), (1, .c (.fn f [.vp cs 0])), (5, .c (I (keptN p l s.j).length)), (6, .c (I s.j)), (19, .c (.bool false))], o := [(0, ⟨0, 4, true, false, s.D.map encMail⟩)], n := s.n }
structure DlI (p : Mail → Bool) (l : List Mail) (s : DlS) : Prop where
  j : s.j ≤ l.length
  len : s.D.length = l.length
  tk : s.D.take (keptN p l s.j).length = keptN p l s.j
  dr : s.D.drop s.j = l.drop s.j
  lt : (keptN p l s.j).length < s.j
theorem dl_turn {f : Nat} {cs : List T} {p : Mail → Bool} (hf : ∀ m, run M f [.a (encMail m), .c (.vp cs 0)] [] = some (.c (.bool (p m)), [])) (k : Nat) (l : List Mail) (hN : l.length ≤ 1048576) (s : DlS) (hs : DlI p l s) :
    (∃ s', exC (run M) k slices_DeleteFunc_impl_Mail_impl_Mail.l0 (dlS f cs p l s) = some (.normal, dlS f cs p l s') ∧ DlI p l s' ∧ l.length - s'.j < l.length - s.j) ∨
      (∃ r, exC (run M) k slices_DeleteFunc_impl_Mail_impl_Mail.l0 (dlS f cs p l s) = some r ∧ r.1 ≠ .normal ∧ ∃ s', r = (.exit 0, dlE f cs p l s') ∧ s'.j = l.length ∧ DlI p l s') := by
  obtain ⟨j, D, n⟩ := s
  obtain ⟨h1, h2, h3, h4, h5⟩ := hs
  simp only at h1 h2 h3 h4 h5
  by_cases c : j < l.length
  · left
    have hD : D[j]'(by omega) = l[j] := by
      have q1 := List.drop_eq_getElem_cons (l := D) (i := j) (by omega)
      have q2 := List.drop_eq_getElem_cons (l := l) (i := j) c
      rw [h4, q2] at q1
      exact (List.cons.inj q1).1.symm
    have hdr : D.drop (j + 1) = l.drop (j + 1) := by
      have q1 := List.drop_eq_getElem_cons (l := D) (i := j) (by omega)
      have q2 := List.drop_eq_getElem_cons (l := l) (i := j) c
      rw [h4, q2] at q1
      exact (List.cons.inj q1).2.symm
    have a1 : ∀ hh, (D.map encMail)[j]'hh = encMail l[j] := by intro hh; simp [hD]
    have e2 : (D.map encMail).length = l.length := by simpa using h2
    have hm := hf l[j]
    have ek : keptN p l (j + 1) = keptN p l j ++ if p l[j] = true then [] else [l[j]] := by
      simp only [keptN, take_snoc l j c, List.filter_append]
      cases q : p l[j] <;> simp [q]
    cases q : p l[j] with
    | true =>
      rw [q] at hm
      obtain ⟨n', hh⟩ := dl_drop hm k l.length (keptN p l j).length j hN (D.map encMail) c e2 a1 n
      rw [q] at ek
      simp only [if_true, List.append_nil] at ek
      refine ⟨⟨j + 1, D, n'⟩, ?_, ⟨by simp only; omega, h2, by simp only [ek]; exact h3, hdr, by simp only [ek]; omega⟩, by simp only; omega⟩
      simp only [dlS, ek]
      exact hh
    | false =>
      rw [q] at hm
      have hi : (keptN p l j).length < l.length := by omega
      obtain ⟨n', hh⟩ := dl_keep hm k l.length (keptN p l j).length j hN (D.map encMail) c hi e2 a1 n (encMail (D[(keptN p l j).length]'(by omega))) (by rw [List.getElem?_map, List.getElem?_eq_getElem (by omega)]; rfl) rfl
      rw [q] at ek
      simp only [Bool.false_eq_true, if_false] at ek
      have el : (keptN p l (j + 1)).length = (keptN p l j).length + 1 := by rw [ek]; simp
      refine ⟨⟨j + 1, D.set (keptN p l j).length l[j], n'⟩, ?_, ⟨by simp only; omega, by simpa using h2, ?_, ?_, by simp only [el]; omega⟩, by simp only; omega⟩
      · simp only [dlS, el, List.map_set]
        exact hh
      · show (D.set (keptN p l j).length l[j]).take (keptN p l (j + 1)).length = keptN p l (j + 1)
        rw [el, ek, take_snoc _ _ (by simp; omega), List.take_set_of_le (Nat.le_refl _), h3]
        simp
      · simp only
        rw [List.drop_set_of_lt (by omega)]
        exact hdr
  · right
    have hj : j = l.length := by omega
    obtain ⟨n', hh⟩ := dl_end (M := M) (f := f) (cs := cs) k l.length (keptN p l j).length j (D.map encMail) c n
    exact ⟨_, hh, by simp, ⟨j, D, n'⟩, rfl, hj, ⟨h1, h2, h3, h4, h5⟩⟩
theorem slices_DeleteFunc_impl_Mail_impl_Mail.says (h : slices_DeleteFunc_impl_Mail_impl_Mail.k M) {f : Nat} {cs : List T} {p : Mail → Bool} (hf : ∀ m, run M f [.a (encMail m), .c (.vp cs 0)] [] = some (.c (.bool (p m)), [])) (l : List Mail) (hl : l.length ≤ 1048576) :
    run M 453 [.c (.row 0 0 0 l.length), .c (.fn f [.vp cs 0])] [mRow l []] =
      some (.c (.row 0 0 0 (l.filter fun m => !p m).length), [(0, ⟨0, 4, true, false, (l.filter fun m => !p m).map encMail ++ List.replicate (l.length - (l.filter fun m => !p m).length) mzero⟩)]) := by
  obtain ⟨h0, k1⟩ := h
  have h1 := slices_IndexFunc_impl_Mail_impl_Mail.gen k1 hf l hl
  refine run_code (b := slices_DeleteFunc_impl_Mail_impl_Mail.m) h0 ⟨l.length + 1, ?_⟩
  have e0 : (l.map encMail).length = l.length := by simp
  cases hq : firstN (pAt p l) l.length with
  | none =>
    have hall : (l.filter fun m => !p m) = l := List.filter_eq_self.2 fun m hm => by
      obtain ⟨j, hj, rfl⟩ := List.getElem_of_mem hm
      have := firstN_none hq j hj
      rw [pAt_at p l j hj] at this
      simp [this]
    rw [hall, Nat.sub_self, List.replicate_zero, List.append_nil]
    rw [hq] at h1
    simp only [mRow, mails, intO, List.append_nil] at h1 ⊢
    generalize l.map encMail = r0 at *
    simp (maxSteps := 1000000) [exB, slices_DeleteFunc_impl_Mail_impl_Mail.m, slices_DeleteFunc_impl_Mail_impl_Mail.b, List.range_succ, bs_get, setAt, h1, e0, List.take_of_length_le]
  | some k =>
    rw [hq] at h1
    obtain ⟨hk1, hk2, hk3⟩ := firstN_some hq
    rw [pAt_at p l k hk1] at hk2
    have ek : keptN p l k = l.take k := by
      refine List.filter_eq_self.2 fun m hm => ?_
      obtain ⟨j, hj, rfl⟩ := List.getElem_of_mem hm
      have hj' : j < k := by simp at hj; omega
      have := hk3 j hj'
      rw [pAt_at p l j (by omega)] at this
      simp [this]
    have ek1 : keptN p l (k + 1) = l.take k := by
      simp only [keptN, take_snoc l k hk1, List.filter_append] at ek ⊢
      rw [ek]; simp [hk2]
    have el : (keptN p l (k + 1)).length = k := by rw [ek1]; simp; omega
    obtain ⟨r, hr, ⟨⟨j, D, n'⟩, rfl, hj, hI⟩⟩ := loop_ex (f := exC (run M) (l.length + 1) slices_DeleteFunc_impl_Mail_impl_Mail.l0) (dlS f cs p l) (DlI p l) (fun s => l.length - s.j)
      (fun r => ∃ s', r = (.exit 0, dlE f cs p l s') ∧ s'.j = l.length ∧ DlI p l s') (fun s hs => dl_turn hf (l.length + 1) l hl s hs) (l.length + 1) ⟨k + 1, l, 2000160⟩
      ⟨by simp only; omega, rfl, by show l.take (keptN p l (k + 1)).length = keptN p l (k + 1); rw [el, ek1], rfl, by simp only [el]; omega⟩ (by simp only; omega)
    obtain ⟨_, hlen, htk, _, hlt⟩ := hI
    simp only at hj hlen htk hlt
    subst hj
    have ef : keptN p l l.length = l.filter fun m => !p m := by simp [keptN]
    rw [ef] at htk hlt
    simp only [dlS, dlE, el, ef] at hr
    have e1 : (D.map encMail).length = l.length := by simpa using hlen
    have e2 : (D.map encMail).take (l.filter fun m => !p m).length = (l.filter fun m => !p m).map encMail := by rw [← List.map_take, htk]
    have e3 : ((l.filter fun m => !p m).map encMail).length = (l.filter fun m => !p m).length := by simp
    have e5 : IntKind.i64.wrap ((k : Int) + 1) = (k : Int) + 1 := wrap_i64 (by omega) (by omega)
    have e6 : ((k + 1 : Nat) : Int) = (k : Int) + 1 := by omega
    have e7 : ¬ (k : Int) = -1 := by omega
    rw [e6] at hr
    simp only [mRow, mails, intO, List.append_nil] at h1 ⊢
    generalize (l.filter fun m => !p m).map encMail = rf at *
    generalize (l.filter fun m => !p m).length = nf at *
    generalize D.map encMail = rd at *
    generalize l.map encMail = r0 at *
    clear hk2 hk3 ek ek1 el hq ef
    generalize l.length = N at *
    have e8 : nf ≤ N := by omega
    have e9 : ¬ N = nf := by omega
    have e10 : ¬ nf = N := by omega
    have e11 : nf + (N - nf) = N := by omega
    have e12 : ¬ N - nf = 0 := by omega
    have e13 : List.drop N rd = [] := List.drop_eq_nil_of_le (by omega)
    simp (maxSteps := 1000000) [exB, slices_DeleteFunc_impl_Mail_impl_Mail.m, slices_DeleteFunc_impl_Mail_impl_Mail.b, List.range_succ, bs_get, setAt, h1, hr, e0, e1, e2, e3, e5, e7, e8, e9, e10, e11, e12, e13, List.take_of_length_le]
end Mx

namespace Mx
open Go
def spec_l08Next.b : C := .seq (.reg [⟨some 2, .box (.t 0), none⟩,
    ⟨some 3, .box (.t 1), none⟩,
    ⟨some 4, .mv (.k (.int .i64 0)), none⟩] [2, 3] [2, 3])
  (.seq (.seq (.reg [⟨some 5, .faddr 4 (.t 2), none⟩,
    ⟨some 6, .load false 1 (.t 5), none⟩,
    ⟨some 7, .faddr 4 (.t 3), none⟩,
    ⟨some 8, .load false 1 (.t 7), none⟩,
    ⟨some 9, .bin .gtr (.t 6) (.t 8), none⟩] [2, 3, 9] [2, 3])
  (.cond (.t 9) (.seq (.reg [⟨some 10, .faddr 4 (.t 2), none⟩,
    ⟨some 11, .load false 1 (.t 10), none⟩,
    ⟨some 4, .mv (.t 11), none⟩] [4] [])
  (.ret)) (.skip)))
  (.seq (.reg [⟨some 12, .faddr 4 (.t 3), none⟩,
    ⟨some 13, .load false 1 (.t 12), none⟩,
    ⟨some 4, .mv (.t 13), none⟩] [4] [])
  (.ret)))
def spec_l08Next.m : Fn := { np := 2, body := spec_l08Next.b, res := [.tmp 4] }
def spec_l08Next.k (M : Nat → Option Body) : Prop := M 459 = some (.code spec_l08Next.m)
def spec_l08Gids.l0 : C := .seq (.seq (.reg [⟨some 9, .mv (.t 6), none⟩,
    ⟨some 10, .faddr 5 (.t 2), none⟩,
    ⟨some 11, .load false 1 (.t 10), none⟩,
    ⟨some 12, .len (.t 11), none⟩,
    ⟨some 13, .bin .lss (.t 9) (.t 12), none⟩] [2, 3, 5, 6, 13] [2, 3, 8])
  (.cond (.t 13) (.skip) (.exit 0)))
  (.seq (.block 1 (.seq (.reg [⟨some 16, .mv (.t 5), none⟩,
    ⟨some 17, .faddr 5 (.t 2), none⟩,
    ⟨some 18, .load false 1 (.t 17), none⟩,
    ⟨some 19, .mv (.t 6), none⟩,
    ⟨some 20, .iaddr 4 (.t 18) (.t 19), none⟩,
    ⟨some 21, .faddr 0 (.t 20), none⟩,
    ⟨some 22, .load false 1 (.t 21), none⟩,
    ⟨some 23, .call 132 [.t 16, .t 22] [] [], none⟩,
    ⟨some 24, .not (.t 23), none⟩] [2, 3, 5, 6, 24] [2, 3, 8])
  (.cond (.t 24) (.reg [⟨some 25, .mv (.t 5), none⟩,
    ⟨some 26, .faddr 5 (.t 2), none⟩,
    ⟨some 27, .load false 1 (.t 26), none⟩,
    ⟨some 28, .mv (.t 6), none⟩,
    ⟨some 29, .iaddr 4 (.t 27) (.t 28), none⟩,
    ⟨some 30, .faddr 0 (.t 29), none⟩,
    ⟨some 31, .load false 1 (.t 30), none⟩,
    ⟨some 32, .call 133 [.t 25, .t 31] [] [(0, 8)], none⟩,
    ⟨some 5, .mv (.t 32), none⟩] [2, 3, 5, 6] [2, 3, 8]) (.skip))))
  (.reg [⟨some 14, .mv (.t 6), none⟩,
    ⟨some 15, .bin .add (.t 14) (.k (.int .i64 1)), none⟩,
    ⟨some 6, .mv (.t 15), none⟩] [2, 3, 5, 6] [2, 3, 8]))
def spec_l08Gids.l1 : C := .seq (.seq (.reg [⟨some 33, .mv (.t 7), none⟩,
    ⟨some 34, .faddr 5 (.t 3), none⟩,
    ⟨some 35, .load false 1 (.t 34), none⟩,
    ⟨some 36, .len (.t 35), none⟩,
    ⟨some 37, .bin .lss (.t 33) (.t 36), none⟩] [3, 5, 7, 37] [3, 8])
  (.cond (.t 37) (.skip) (.exit 2)))
  (.seq (.block 3 (.seq (.reg [⟨some 40, .mv (.t 5), none⟩,
    ⟨some 41, .faddr 5 (.t 3), none⟩,
    ⟨some 42, .load false 1 (.t 41), none⟩,
    ⟨some 43, .mv (.t 7), none⟩,
    ⟨some 44, .iaddr 4 (.t 42) (.t 43), none⟩,
    ⟨some 45, .faddr 0 (.t 44), none⟩,
    ⟨some 46, .load false 1 (.t 45), none⟩,
    ⟨some 47, .call 132 [.t 40, .t 46] [] [], none⟩,
    ⟨some 48, .not (.t 47), none⟩] [3, 5, 7, 48] [3, 8])
  (.cond (.t 48) (.reg [⟨some 49, .mv (.t 5), none⟩,
    ⟨some 50, .faddr 5 (.t 3), none⟩,
    ⟨some 51, .load false 1 (.t 50), none⟩,
    ⟨some 52, .mv (.t 7), none⟩,
    ⟨some 53, .iaddr 4 (.t 51) (.t 52), none⟩,
    ⟨some 54, .faddr 0 (.t 53), none⟩,
    ⟨some 55, .load false 1 (.t 54), none⟩,
    ⟨some 56, .call 133 [.t 49, .t 55] [] [(0, 8)], none⟩,
    ⟨some 5, .mv (.t 56), none⟩] [3, 5, 7] [3, 8]) (.skip))))
  (.reg [⟨some 38, .mv (.t 7), none⟩,
    ⟨some 39, .bin .add (.t 38) (.k (.int .i64 1)), none⟩,
    ⟨some 7, .mv (.t 39), none⟩] [3, 5, 7] [3, 8]))
def spec_l08Gids.b : C := .seq (.reg [⟨some 2, .box (.t 0), none⟩,
    ⟨some 3, .box (.t 1), none⟩,
    ⟨some 4, .nil 1, none⟩] [2, 3] [2, 3])
  (.seq (.reg [⟨some 8, .bslice 1 0 [.int .i64 0] [], none⟩,
    ⟨some 5, .mv (.t 8), none⟩] [2, 3, 5] [2, 3, 8])
  (.seq (.seq (.reg [⟨some 6, .mv (.k (.int .i64 0)), none⟩] [2, 3, 5, 6] [2, 3, 8])
  (.block 0 (.loop spec_l08Gids.l0)))
  (.seq (.seq (.reg [⟨some 7, .mv (.k (.int .i64 0)), none⟩] [3, 5, 7] [3, 8])
  (.block 2 (.loop spec_l08Gids.l1)))
  (.seq (.reg [⟨some 57, .mv (.t 5), none⟩,
    ⟨some 4, .mv (.t 57), none⟩] [4] [4, 8])
  (.ret)))))
def spec_l08Gids.m : Fn := { np := 2, body := spec_l08Gids.b, res := [.tmp 4] }
def spec_l08Gids.k (M : Nat → Option Body) : Prop := M 460 = some (.code spec_l08Gids.m) ∧ spec_l06In.k M ∧ spec_l06Put.k M
def spec_l08Put.l0 : C := .seq (.seq (.reg [⟨some 9, .mv (.t 6), none⟩,
    ⟨some 10, .mv (.t 0), none⟩,
    ⟨some 11, .len (.t 10), none⟩,
    ⟨some 12, .bin .lss (.t 9) (.t 11), none⟩] [0, 3, 5, 6, 12] [3, 8, 29, 33, 54])
  (.cond (.t 12) (.skip) (.exit 0)))
  (.seq (.block 1 (.seq (.regd [⟨some 15, .mv (.t 0), none⟩,
    ⟨some 16, .mv (.t 6), none⟩,
    ⟨some 17, .iaddr 4 (.t 15) (.t 16), none⟩,
    ⟨some 18, .faddr 1 (.t 17), none⟩,
    ⟨some 19, .load false 1 (.t 18), none⟩,
    ⟨some 20, .faddr 1 (.t 3), none⟩,
    ⟨some 21, .load false 1 (.t 20), none⟩,
    ⟨some 22, .bin .leq (.t 19) (.t 21), none⟩] [[], [], [0, 1], [0, 1, 2], List.range 4, [], [5], List.range 7] [0, 3, 5, 6, 22] [3, 8, 29, 33, 54])
  (.cond (.t 22) (.reg [⟨some 23, .mv (.t 5), none⟩,
    ⟨some 24, .mv (.t 0), none⟩,
    ⟨some 25, .mv (.t 6), none⟩,
    ⟨some 26, .iaddr 4 (.t 24) (.t 25), none⟩,
    ⟨some 27, .load true 4 (.t 26), none⟩,
    ⟨some 28, .bslice 4 1 [.int .i64 0, .int .i64 0, .nils 3, .str ⟨#[]⟩] [(0, .t 27)], none⟩,
    ⟨some 29, .app 4 56 (.t 23) (.t 28), none⟩,
    ⟨some 5, .mv (.t 29), none⟩] [0, 3, 5, 6] [3, 8, 29, 33, 54]) (.skip))))
  (.reg [⟨some 13, .mv (.t 6), none⟩,
    ⟨some 14, .bin .add (.t 13) (.k (.int .i64 1)), none⟩,
    ⟨some 6, .mv (.t 14), none⟩] [0, 3, 5, 6] [3, 8, 29, 33, 54]))
def spec_l08Put.l1 : C := .seq (.seq (.reg [⟨some 34, .mv (.t 7), none⟩,
    ⟨some 35, .mv (.t 0), none⟩,
    ⟨some 36, .len (.t 35), none⟩,
    ⟨some 37, .bin .lss (.t 34) (.t 36), none⟩] [0, 3, 5, 7, 37] [3, 8, 29, 33, 54])
  (.cond (.t 37) (.skip) (.exit 2)))
  (.seq (.block 3 (.seq (.regd [⟨some 40, .mv (.t 0), none⟩,
    ⟨some 41, .mv (.t 7), none⟩,
    ⟨some 42, .iaddr 4 (.t 40) (.t 41), none⟩,
    ⟨some 43, .faddr 1 (.t 42), none⟩,
    ⟨some 44, .load false 1 (.t 43), none⟩,
    ⟨some 45, .faddr 1 (.t 3), none⟩,
    ⟨some 46, .load false 1 (.t 45), none⟩,
    ⟨some 47, .bin .gtr (.t 44) (.t 46), none⟩] [[], [], [0, 1], [0, 1, 2], List.range 4, [], [5], List.range 7] [0, 3, 5, 7, 47] [3, 8, 29, 33, 54])
  (.cond (.t 47) (.reg [⟨some 48, .mv (.t 5), none⟩,
    ⟨some 49, .mv (.t 0), none⟩,
    ⟨some 50, .mv (.t 7), none⟩,
    ⟨some 51, .iaddr 4 (.t 49) (.t 50), none⟩,
    ⟨some 52, .load true 4 (.t 51), none⟩,
    ⟨some 53, .bslice 4 1 [.int .i64 0, .int .i64 0, .nils 3, .str ⟨#[]⟩] [(0, .t 52)], none⟩,
    ⟨some 54, .app 4 56 (.t 48) (.t 53), none⟩,
    ⟨some 5, .mv (.t 54), none⟩] [0, 3, 5, 7] [3, 8, 29, 33, 54]) (.skip))))
  (.reg [⟨some 38, .mv (.t 7), none⟩,
    ⟨some 39, .bin .add (.t 38) (.k (.int .i64 1)), none⟩,
    ⟨some 7, .mv (.t 39), none⟩] [0, 3, 5, 7] [3, 8, 29, 33, 54]))
def spec_l08Put.b : C := .seq (.reg [⟨some 3, .box (.t 1), none⟩,
    ⟨some 4, .nil 4, none⟩] [0, 3] [3])
  (.seq (.reg [⟨some 8, .bslice 4 0 [.int .i64 0, .int .i64 0, .nils 3, .str ⟨#[]⟩] [], none⟩,
    ⟨some 5, .mv (.t 8), none⟩] [0, 3, 5] [3, 8, 29, 33, 54])
  (.seq (.seq (.reg [⟨some 6, .mv (.k (.int .i64 0)), none⟩] [0, 3, 5, 6] [3, 8, 29, 33, 54])
  (.block 0 (.loop spec_l08Put.l0)))
  (.seq (.reg [⟨some 30, .mv (.t 5), none⟩,
    ⟨some 31, .load true 4 (.t 3), none⟩,
    ⟨some 32, .bslice 4 1 [.int .i64 0, .int .i64 0, .nils 3, .str ⟨#[]⟩] [(0, .t 31)], none⟩,
    ⟨some 33, .app 4 56 (.t 30) (.t 32), none⟩,
    ⟨some 5, .mv (.t 33), none⟩] [0, 3, 5] [3, 8, 29, 33, 54])
  (.seq (.seq (.reg [⟨some 7, .mv (.k (.int .i64 0)), none⟩] [0, 3, 5, 7] [3, 8, 29, 33, 54])
  (.block 2 (.loop spec_l08Put.l1)))
  (.seq (.reg [⟨some 55, .mv (.t 5), none⟩,
    ⟨some 4, .mv (.t 55), none⟩] [4] [4, 8, 29, 33, 54])
  (.ret))))))
def spec_l08Put.m : Fn := { np := 2, body := spec_l08Put.b, res := [.tmp 4] }
def spec_l08Put.k (M : Nat → Option Body) : Prop := M 462 = some (.code spec_l08Put.m)
def spec_l08Join.l0 : C := .seq (.seq (.reg [⟨some 21, .mv (.t 9), none⟩,
    ⟨some 22, .mv (.t 8), none⟩,
    ⟨some 23, .len (.t 22), none⟩,
    ⟨some 24, .bin .lss (.t 21) (.t 23), none⟩] [2, 3, 6, 7, 8, 9, 24] [2, 3, 17])
  (.cond (.t 24) (.skip) (.exit 0)))
  (.seq (.block 1 (.seq (.reg [⟨some 27, .mv (.t 8), none⟩,
    ⟨some 28, .mv (.t 9), none⟩,
    ⟨some 29, .iaddr 1 (.t 27) (.t 28), none⟩,
    ⟨some 30, .load false 1 (.t 29), none⟩,
    ⟨some 10, .mv (.t 30), none⟩] [2, 3, 6, 7, 8, 9, 10] [2, 3, 17])
  (.seq (.seq (.reg [⟨some 31, .faddr 6 (.t 2), none⟩,
    ⟨some 32, .load false 1 (.t 31), none⟩,
    ⟨some 33, .mv (.t 10), none⟩,
    ⟨some 34, .call 132 [.t 32, .t 33] [] [], none⟩,
    ⟨some 35, .mv (.t 34), none⟩,
    ⟨some 36, .faddr 6 (.t 3), some (35, false)⟩,
    ⟨some 37, .load false 1 (.t 36), some (35, false)⟩,
    ⟨some 38, .mv (.t 10), some (35, false)⟩,
    ⟨some 39, .call 132 [.t 37, .t 38] [] [], some (35, false)⟩,
    ⟨some 40, .pick (.t 35) (.k (.bool true)) (.t 39), none⟩] [2, 3, 6, 7, 8, 9, 10, 40] [2, 3, 17])
  (.cond (.t 40) (.exit 1) (.skip)))
  (.seq (.reg [⟨some 41, .load true 7 (.t 2), none⟩,
    ⟨some 42, .mv (.t 10), none⟩,
    ⟨some 43, .call 91 [.t 41, .t 42] [] [], none⟩,
    ⟨some 11, .mv (.t 43), none⟩] [2, 3, 6, 7, 8, 9, 10, 11] [2, 3, 17])
  (.seq (.reg [⟨some 44, .load true 7 (.t 3), none⟩,
    ⟨some 45, .mv (.t 10), none⟩,
    ⟨some 46, .call 91 [.t 44, .t 45] [] [], none⟩,
    ⟨some 12, .mv (.t 46), none⟩] [2, 3, 6, 7, 8, 9, 10, 11, 12] [2, 3, 17])
  (.seq (.reg [⟨some 47, .build [.int .i64 0, .int .i64 0, .nils 3, .str ⟨#[]⟩] [], none⟩,
    ⟨some 13, .alloc [.int .i64 0, .int .i64 0, .nils 3, .str ⟨#[]⟩], none⟩,
    ⟨none, .store 4 (.t 13) (.t 47), none⟩] [2, 3, 6, 7, 8, 9, 10, 11, 12, 13] [2, 3, 13, 17])
  (.seq (.block 2 (.seq (.reg [⟨some 55, .mv (.t 11), none⟩,
    ⟨some 56, .bin .geq (.t 55) (.k (.int .i64 0)), none⟩,
    ⟨some 57, .mv (.t 56), none⟩,
    ⟨some 58, .mv (.t 12), some (57, true)⟩,
    ⟨some 59, .bin .geq (.t 58) (.k (.int .i64 0)), some (57, true)⟩,
    ⟨some 60, .pick (.t 57) (.t 59) (.k (.bool false)), none⟩,
    ⟨some 54, .mv (.t 60), none⟩] [2, 3, 6, 7, 8, 9, 10, 11, 12, 13, 54] [2, 3, 13, 17])
  (.cond (.t 54) (.regd [⟨some 61, .faddr 5 (.t 2), none⟩,
    ⟨some 62, .load false 1 (.t 61), none⟩,
    ⟨some 63, .mv (.t 11), none⟩,
    ⟨some 64, .iaddr 4 (.t 62) (.t 63), none⟩,
    ⟨some 65, .load true 4 (.t 64), none⟩,
    ⟨some 66, .faddr 5 (.t 3), none⟩,
    ⟨some 67, .load false 1 (.t 66), none⟩,
    ⟨some 68, .mv (.t 12), none⟩,
    ⟨some 69, .iaddr 4 (.t 67) (.t 68), none⟩,
    ⟨some 70, .load true 4 (.t 69), none⟩,
    ⟨some 71, .call 461 [.t 65, .t 70] [] [], none⟩,
    ⟨none, .store 4 (.t 13) (.t 71), none⟩] [[], [0], [], [0, 1, 2], List.range 4, [], [5], [], [5, 6, 7], [5, 6, 7, 8], List.range 10, List.range 11] [2, 3, 6, 7, 8, 9, 10, 11, 12, 13] [2, 3, 13, 17]) (.seq (.reg [⟨some 73, .mv (.t 11), none⟩,
    ⟨some 74, .bin .geq (.t 73) (.k (.int .i64 0)), none⟩,
    ⟨some 72, .mv (.t 74), none⟩] [2, 3, 6, 7, 8, 9, 10, 11, 12, 13, 72] [2, 3, 13, 17])
  (.cond (.t 72) (.reg [⟨some 75, .faddr 5 (.t 2), none⟩,
    ⟨some 76, .load false 1 (.t 75), none⟩,
    ⟨some 77, .mv (.t 11), none⟩,
    ⟨some 78, .iaddr 4 (.t 76) (.t 77), none⟩,
    ⟨some 79, .load true 4 (.t 78), none⟩,
    ⟨some 80, .call 238 [.t 79] [] [], none⟩,
    ⟨none, .store 4 (.t 13) (.t 80), none⟩] [2, 3, 6, 7, 8, 9, 10, 11, 12, 13] [2, 3, 13, 17]) (.reg [⟨some 48, .faddr 5 (.t 3), none⟩,
    ⟨some 49, .load false 1 (.t 48), none⟩,
    ⟨some 50, .mv (.t 12), none⟩,
    ⟨some 51, .iaddr 4 (.t 49) (.t 50), none⟩,
    ⟨some 52, .load true 4 (.t 51), none⟩,
    ⟨some 53, .call 238 [.t 52] [] [], none⟩,
    ⟨none, .store 4 (.t 13) (.t 53), none⟩] [2, 3, 6, 7, 8, 9, 10, 11, 12, 13] [2, 3, 13, 17]))))))
  (.seq (.seq (.reg [⟨some 81, .mv (.t 11), none⟩,
    ⟨some 82, .bin .geq (.t 81) (.k (.int .i64 0)), none⟩,
    ⟨some 83, .mv (.t 82), none⟩,
    ⟨some 84, .load true 7 (.t 2), some (83, true)⟩,
    ⟨some 85, .load true 7 (.t 3), some (83, true)⟩,
    ⟨some 86, .mv (.t 10), some (83, true)⟩,
    ⟨some 87, .call 22 [.t 84, .t 85, .t 86] [] [], some (83, true)⟩,
    ⟨some 88, .not (.t 87), some (83, true)⟩,
    ⟨some 89, .pick (.t 83) (.t 88) (.k (.bool false)), none⟩,
    ⟨some 90, .mv (.t 89), none⟩,
    ⟨some 91, .mv (.t 12), some (90, false)⟩,
    ⟨some 92, .bin .geq (.t 91) (.k (.int .i64 0)), some (90, false)⟩,
    ⟨some 93, .mv (.t 92), some (90, false)⟩,
    ⟨some 94, .load true 7 (.t 3), some (93, true)⟩,
    ⟨some 95, .load true 7 (.t 2), some (93, true)⟩,
    ⟨some 96, .mv (.t 10), some (93, true)⟩,
    ⟨some 97, .call 22 [.t 94, .t 95, .t 96] [] [], some (93, true)⟩,
    ⟨some 98, .not (.t 97), some (93, true)⟩,
    ⟨some 99, .pick (.t 93) (.t 98) (.k (.bool false)), some (90, false)⟩,
    ⟨some 100, .pick (.t 90) (.k (.bool true)) (.t 99), none⟩] [2, 3, 6, 7, 8, 9, 13, 100] [2, 3, 13, 17])
  (.cond (.t 100) (.seq (.reg [⟨some 101, .mv (.t 6), none⟩,
    ⟨some 102, .faddr 1 (.t 13), none⟩,
    ⟨none, .store 1 (.t 102) (.t 101), none⟩] [2, 3, 6, 7, 8, 9, 13] [2, 3, 13, 17])
  (.reg [⟨some 103, .mv (.t 6), none⟩,
    ⟨some 104, .bin .add (.t 103) (.k (.int .i64 1)), none⟩,
    ⟨some 6, .mv (.t 104), none⟩] [2, 3, 6, 7, 8, 9, 13] [2, 3, 13, 17])) (.skip)))
  (.shut [17] (.reg [⟨some 105, .mv (.t 7), none⟩,
    ⟨some 106, .load true 4 (.t 13), none⟩,
    ⟨some 107, .call 462 [.t 105, .t 106] [] [(0, 17)], none⟩,
    ⟨some 7, .mv (.t 107), none⟩] [2, 3, 6, 7, 8, 9] [2, 3, 17]))))))))))
  (.reg [⟨some 25, .mv (.t 9), none⟩,
    ⟨some 26, .bin .add (.t 25) (.k (.int .i64 1)), none⟩,
    ⟨some 9, .mv (.t 26), none⟩] [2, 3, 6, 7, 8, 9] [2, 3, 17]))
def spec_l08Join.b : C := .seq (.reg [⟨some 2, .box (.t 0), none⟩,
    ⟨some 3, .box (.t 1), none⟩,
    ⟨some 4, .nil 4, none⟩,
    ⟨some 5, .mv (.k (.int .i64 0)), none⟩] [2, 3] [2, 3])
  (.seq (.reg [⟨some 14, .load true 7 (.t 2), none⟩,
    ⟨some 15, .load true 7 (.t 3), none⟩,
    ⟨some 16, .call 459 [.t 14, .t 15] [] [], none⟩,
    ⟨some 6, .mv (.t 16), none⟩] [2, 3, 6] [2, 3])
  (.seq (.reg [⟨some 17, .bslice 4 0 [.int .i64 0, .int .i64 0, .nils 3, .str ⟨#[]⟩] [], none⟩,
    ⟨some 7, .mv (.t 17), none⟩] [2, 3, 6, 7] [2, 3, 17])
  (.seq (.reg [⟨some 18, .load true 7 (.t 2), none⟩,
    ⟨some 19, .load true 7 (.t 3), none⟩,
    ⟨some 20, .call 460 [.t 18, .t 19] [] [], none⟩,
    ⟨some 8, .mv (.t 20), none⟩] [2, 3, 6, 7, 8] [2, 3, 17])
  (.seq (.seq (.reg [⟨some 9, .mv (.k (.int .i64 0)), none⟩] [2, 3, 6, 7, 8, 9] [2, 3, 17])
  (.block 0 (.loop spec_l08Join.l0)))
  (.seq (.reg [⟨some 108, .mv (.t 7), none⟩,
    ⟨some 109, .mv (.t 6), none⟩,
    ⟨some 4, .mv (.t 108), none⟩,
    ⟨some 5, .mv (.t 109), none⟩] [4, 5] [4, 17])
  (.ret))))))
def spec_l08Join.m : Fn := { np := 2, body := spec_l08Join.b, res := [.tmp 4, .tmp 5] }
def spec_l08Join.k (M : Nat → Option Body) : Prop := M 439 = some (.code spec_l08Join.m) ∧ spec_KeepsUid.k M ∧ spec_MailAt.k M ∧ spec_l06In.k M ∧ spec_l05Copy.k M ∧ spec_l08Next.k M ∧ spec_l08Gids.k M ∧ spec_JoinMail.k M ∧ spec_l08Put.k M
def spec_JoinBox.b : C := .seq (.reg [⟨some 2, .box (.t 0), none⟩,
    ⟨some 3, .box (.t 1), none⟩,
    ⟨some 4, .alloc [.int .i64 0, .str ⟨#[]⟩, .int .i64 0, .int .i64 0, .int .i64 0, .nils 4, .nils 1], none⟩] [2, 3, 4] [2, 3, 4, 11205, 11206, 12300, 15300])
  (.seq (.seq (.reg [⟨some 6, .faddr 0 (.t 2), none⟩,
    ⟨some 7, .load false 1 (.t 6), none⟩,
    ⟨some 8, .faddr 0 (.t 3), none⟩,
    ⟨some 9, .load false 1 (.t 8), none⟩,
    ⟨some 10, .bin .neq (.t 7) (.t 9), none⟩] [2, 3, 4, 10] [2, 3, 4, 11205, 11206, 12300, 15300])
  (.cond (.t 10) (.seq (.reg [⟨some 11, .load true 7 (.t 2), none⟩,
    ⟨some 12, .call 180 [.t 11] [] [(5, 11205), (6, 11206)], none⟩,
    ⟨none, .store 7 (.t 4) (.t 12), none⟩] [4] [4, 11205, 11206, 12300, 15300])
  (.ret)) (.skip)))
  (.seq (.regd [⟨some 13, .faddr 0 (.t 2), none⟩,
    ⟨some 14, .load false 1 (.t 13), none⟩,
    ⟨some 15, .faddr 1 (.t 2), none⟩,
    ⟨some 16, .load false 1 (.t 15), none⟩,
    ⟨some 17, .faddr 2 (.t 2), none⟩,
    ⟨some 18, .load true 2 (.t 17), none⟩,
    ⟨some 19, .faddr 6 (.t 2), none⟩,
    ⟨some 20, .load false 1 (.t 19), none⟩,
    ⟨some 21, .faddr 6 (.t 3), none⟩,
    ⟨some 22, .load false 1 (.t 21), none⟩,
    ⟨some 23, .call 43 [.t 20, .t 22] [] [(0, 12300)], none⟩,
    ⟨some 24, .build [.int .i64 0, .str ⟨#[]⟩, .int .i64 0, .int .i64 0, .int .i64 0, .nils 4, .nils 1] [(0, 1, .t 14), (1, 1, .t 16), (2, 2, .t 18), (6, 1, .t 23)], none⟩,
    ⟨some 5, .alloc [.int .i64 0, .str ⟨#[]⟩, .int .i64 0, .int .i64 0, .int .i64 0, .nils 4, .nils 1], none⟩,
    ⟨none, .store 7 (.t 5) (.t 24), none⟩] [[], [0], [], [2], [], [4], [], [6], [], [8], [6, 7, 8, 9], List.range 11, [], List.range 13] [2, 3, 4, 5] [2, 3, 4, 5, 11205, 11206, 12300, 15300])
  (.seq (.seq (.reg [⟨some 25, .faddr 2 (.t 3), none⟩,
    ⟨some 26, .load true 2 (.t 25), none⟩,
    ⟨some 27, .faddr 2 (.t 2), none⟩,
    ⟨some 28, .load true 2 (.t 27), none⟩,
    ⟨some 29, .call 277 [.t 26, .t 28] [] [], none⟩,
    ⟨some 30, .mv (.t 29), none⟩,
    ⟨some 31, .faddr 2 (.t 2), some (30, false)⟩,
    ⟨some 32, .load true 2 (.t 31), some (30, false)⟩,
    ⟨some 33, .faddr 2 (.t 3), some (30, false)⟩,
    ⟨some 34, .load true 2 (.t 33), some (30, false)⟩,
    ⟨some 35, .eqs false [.int, .int] (.t 32) (.t 34), some (30, false)⟩,
    ⟨some 36, .mv (.t 35), some (30, false)⟩,
    ⟨some 37, .faddr 1 (.t 3), some (36, true)⟩,
    ⟨some 38, .load false 1 (.t 37), some (36, true)⟩,
    ⟨some 39, .faddr 1 (.t 2), some (36, true)⟩,
    ⟨some 40, .load false 1 (.t 39), some (36, true)⟩,
    ⟨some 41, .bin .gtr (.t 38) (.t 40), some (36, true)⟩,
    ⟨some 42, .pick (.t 36) (.t 41) (.k (.bool false)), some (30, false)⟩,
    ⟨some 43, .pick (.t 30) (.k (.bool true)) (.t 42), none⟩] [2, 3, 4, 5, 43] [2, 3, 4, 5, 11205, 11206, 12300, 15300])
  (.cond (.t 43) (.seq (.reg [⟨some 44, .faddr 1 (.t 3), none⟩,
    ⟨some 45, .load false 1 (.t 44), none⟩,
    ⟨some 46, .faddr 1 (.t 5), none⟩,
    ⟨none, .store 1 (.t 46) (.t 45), none⟩] [2, 3, 4, 5] [2, 3, 4, 5, 11205, 11206, 12300, 15300])
  (.reg [⟨some 47, .faddr 2 (.t 3), none⟩,
    ⟨some 48, .load true 2 (.t 47), none⟩,
    ⟨some 49, .faddr 2 (.t 5), none⟩,
    ⟨none, .store 2 (.t 49) (.t 48), none⟩] [2, 3, 4, 5] [2, 3, 4, 5, 11205, 11206, 12300, 15300])) (.skip)))
  (.seq (.reg [⟨some 51, .load true 7 (.t 2), none⟩,
    ⟨some 52, .load true 7 (.t 3), none⟩,
    ⟨some 53, .call 439 [.t 51, .t 52] [] [(0, 15300)], none⟩,
    ⟨some 50, .mv (.t 53), none⟩,
    ⟨some 54, .ext 0 (.t 50), none⟩,
    ⟨some 55, .ext 1 (.t 50), none⟩,
    ⟨some 56, .faddr 5 (.t 5), none⟩,
    ⟨none, .store 1 (.t 56) (.t 54), none⟩,
    ⟨some 57, .faddr 4 (.t 5), none⟩,
    ⟨none, .store 1 (.t 57) (.t 55), none⟩] [4, 5] [4, 5, 11205, 11206, 12300, 15300])
  (.seq (.reg [⟨some 58, .load true 7 (.t 5), none⟩,
    ⟨none, .store 7 (.t 4) (.t 58), none⟩] [4] [4, 11205, 11206, 12300, 15300])
  (.ret))))))
def spec_JoinBox.m : Fn := { np := 2, body := spec_JoinBox.b, res := [.cell 4 true 7] }
def spec_JoinBox.k (M : Nat → Option Body) : Prop := M 405 = some (.code spec_JoinBox.m) ∧ spec_JoinGone.k M ∧ spec_l06Copy.k M ∧ spec_Later.k M ∧ spec_l08Join.k M
end Mx

namespace Mx
open Go
def spec_l01Figure.b : C := .seq (.reg [⟨some 2, .mv (.k (.int .u8 0)), none⟩] [0] [])
  (.seq (.seq (.reg [⟨some 3, .mv (.t 0), none⟩,
    ⟨some 4, .bin .lss (.t 3) (.k (.int .i64 10)), none⟩] [0, 4] [])
  (.cond (.t 4) (.seq (.reg [⟨some 5, .mv (.t 0), none⟩,
    ⟨some 6, .bin .add (.k (.int .i64 48)) (.t 5), none⟩,
    ⟨some 7, .i2i .u8 (.t 6), none⟩,
    ⟨some 2, .mv (.t 7), none⟩] [2] [])
  (.ret)) (.skip)))
  (.seq (.reg [⟨some 8, .mv (.t 0), none⟩,
    ⟨some 9, .bin .add (.k (.int .i64 97)) (.t 8), none⟩,
    ⟨some 10, .bin .sub (.t 9) (.k (.int .i64 10)), none⟩,
    ⟨some 11, .i2i .u8 (.t 10), none⟩,
    ⟨some 2, .mv (.t 11), none⟩] [2] [])
  (.ret)))
def spec_l01Figure.m : Fn := { np := 1, body := spec_l01Figure.b, res := [.tmp 2] }
def spec_l01Figure.k (M : Nat → Option Body) : Prop := M 247 = some (.code spec_l01Figure.m)
def spec_Decimal.l0 : C := .seq (.seq (.reg [⟨some 10, .mv (.t 0), none⟩,
    ⟨some 11, .bin .neq (.t 10) (.k (.int .i64 0)), none⟩] [0, 3, 4, 11] [])
  (.cond (.t 11) (.skip) (.exit 0)))
  (.block 1 (.seq (.reg [⟨some 12, .mv (.t 0), none⟩,
    ⟨some 13, .bin .rem (.t 12) (.k (.int .i64 10)), none⟩,
    ⟨some 5, .mv (.t 13), none⟩] [0, 3, 4, 5] [])
  (.seq (.seq (.reg [⟨some 14, .mv (.t 5), none⟩,
    ⟨some 15, .bin .lss (.t 14) (.k (.int .i64 0)), none⟩] [0, 3, 4, 5, 15] [])
  (.cond (.t 15) (.reg [⟨some 16, .mv (.t 5), none⟩,
    ⟨some 17, .neg (.t 16), none⟩,
    ⟨some 5, .mv (.t 17), none⟩] [0, 3, 4, 5] []) (.skip)))
  (.seq (.reg [⟨some 18, .mv (.t 5), none⟩,
    ⟨some 19, .call 247 [.t 18] [] [], none⟩,
    ⟨some 20, .bslice 1 1 [.int .u8 0] [(0, .t 19)], none⟩,
    ⟨some 21, .b2s (.t 20), none⟩,
    ⟨some 22, .mv (.t 4), none⟩,
    ⟨some 23, .bin .add (.t 21) (.t 22), none⟩,
    ⟨some 4, .mv (.t 23), none⟩] [0, 3, 4] [])
  (.reg [⟨some 24, .mv (.t 0), none⟩,
    ⟨some 25, .bin .quo (.t 24) (.k (.int .i64 10)), none⟩,
    ⟨some 0, .mv (.t 25), none⟩] [0, 3, 4] [])))))
def spec_Decimal.b : C := .seq (.reg [⟨some 2, .mv (.k (.str ⟨#[]⟩)), none⟩] [0] [])
  (.seq (.seq (.reg [⟨some 6, .mv (.t 0), none⟩,
    ⟨some 7, .bin .eql (.t 6) (.k (.int .i64 0)), none⟩] [0, 7] [])
  (.cond (.t 7) (.seq (.reg [⟨some 2, .mv (.k (.str ⟨#[48]⟩)), none⟩] [2] [])
  (.ret)) (.skip)))
  (.seq (.reg [⟨some 8, .mv (.t 0), none⟩,
    ⟨some 9, .bin .lss (.t 8) (.k (.int .i64 0)), none⟩,
    ⟨some 3, .mv (.t 9), none⟩] [0, 3] [])
  (.seq (.reg [⟨some 4, .mv (.k (.str ⟨#[]⟩)), none⟩] [0, 3, 4] [])
  (.seq (.block 0 (.loop spec_Decimal.l0))
  (.seq (.seq (.reg [⟨some 26, .mv (.t 3), none⟩] [4, 26] [])
  (.cond (.t 26) (.seq (.reg [⟨some 27, .mv (.t 4), none⟩,
    ⟨some 28, .bin .add (.k (.str ⟨#[45]⟩)) (.t 27), none⟩,
    ⟨some 2, .mv (.t 28), none⟩] [2] [])
  (.ret)) (.skip)))
  (.seq (.reg [⟨some 29, .mv (.t 4), none⟩,
    ⟨some 2, .mv (.t 29), none⟩] [2] [])
  (.ret)))))))
def spec_Decimal.m : Fn := { np := 1, body := spec_Decimal.b, res := [.tmp 2] }
def spec_Decimal.k (M : Nat → Option Body) : Prop := M 197 = some (.code spec_Decimal.m) ∧ spec_l01Figure.k M
def impl_Decimal.l0 : C := .seq (.seq (.reg [⟨some 9, .mv (.t 4), none⟩,
    ⟨some 10, .bin .neq (.t 9) (.k (.int .i64 0)), none⟩] [0, 3, 4, 10] [])
  (.cond (.t 10) (.skip) (.exit 0)))
  (.seq (.block 1 (.seq (.reg [⟨some 13, .mv (.t 4), none⟩,
    ⟨some 14, .bin .rem (.t 13) (.k (.int .i64 10)), none⟩,
    ⟨some 5, .mv (.t 14), none⟩] [0, 3, 4, 5] [])
  (.seq (.reg [⟨some 15, .mv (.t 5), none⟩,
    ⟨some 16, .mv (.t 5), none⟩,
    ⟨some 17, .neg (.t 16), none⟩,
    ⟨some 18, .max (.t 15) (.t 17), none⟩,
    ⟨some 5, .mv (.t 18), none⟩] [0, 3, 4, 5] [])
  (.reg [⟨some 19, .mv (.t 5), none⟩,
    ⟨some 20, .mv (.t 5), none⟩,
    ⟨some 21, .bin .add (.t 20) (.k (.int .i64 1)), none⟩,
    ⟨some 22, .sstr (.k (.str ⟨#[48, 49, 50, 51, 52, 53, 54, 55, 56, 57, 97, 98, 99, 100, 101, 102]⟩)) (some (.t 19)) (some (.t 21)), none⟩,
    ⟨some 23, .mv (.t 3), none⟩,
    ⟨some 24, .bin .add (.t 22) (.t 23), none⟩,
    ⟨some 3, .mv (.t 24), none⟩] [0, 3, 4] []))))
  (.reg [⟨some 11, .mv (.t 4), none⟩,
    ⟨some 12, .bin .quo (.t 11) (.k (.int .i64 10)), none⟩,
    ⟨some 4, .mv (.t 12), none⟩] [0, 3, 4] []))
def impl_Decimal.b : C := .seq (.reg [⟨some 2, .mv (.k (.str ⟨#[]⟩)), none⟩] [0] [])
  (.seq (.seq (.reg [⟨some 6, .mv (.t 0), none⟩,
    ⟨some 7, .bin .eql (.t 6) (.k (.int .i64 0)), none⟩] [0, 7] [])
  (.cond (.t 7) (.seq (.reg [⟨some 2, .mv (.k (.str ⟨#[48]⟩)), none⟩] [2] [])
  (.ret)) (.skip)))
  (.seq (.reg [⟨some 3, .mv (.k (.str ⟨#[]⟩)), none⟩] [0, 3] [])
  (.seq (.seq (.reg [⟨some 8, .mv (.t 0), none⟩,
    ⟨some 4, .mv (.t 8), none⟩] [0, 3, 4] [])
  (.block 0 (.loop impl_Decimal.l0)))
  (.seq (.seq (.reg [⟨some 25, .mv (.t 0), none⟩,
    ⟨some 26, .bin .lss (.t 25) (.k (.int .i64 0)), none⟩] [3, 26] [])
  (.cond (.t 26) (.reg [⟨some 27, .mv (.t 3), none⟩,
    ⟨some 28, .bin .add (.k (.str ⟨#[45]⟩)) (.t 27), none⟩,
    ⟨some 3, .mv (.t 28), none⟩] [3] []) (.skip)))
  (.seq (.reg [⟨some 29, .mv (.t 3), none⟩,
    ⟨some 2, .mv (.t 29), none⟩] [2] [])
  (.ret))))))
def impl_Decimal.m : Fn := { np := 1, body := impl_Decimal.b, res := [.tmp 2] }
def impl_Decimal.k (M : Nat → Option Body) : Prop := M 128 = some (.code impl_Decimal.m)
end Mx

namespace Mx
open Go
def impl_JoinBoxes_1_1.b : C := .seq (.reg [⟨some 2, .box (.t 0), none⟩,
    ⟨some 3, .mv (.k (.bool false)), none⟩] [1, 2] [2])
  (.seq (.reg [⟨some 4, .faddr 0 (.t 2), none⟩,
    ⟨some 5, .load false 1 (.t 4), none⟩,
    ⟨some 6, .load false 1 (.t 1), none⟩,
    ⟨some 7, .bin .eql (.t 5) (.t 6), none⟩,
    ⟨some 3, .mv (.t 7), none⟩] [3] [])
  (.ret))
def impl_JoinBoxes_1_1.m : Fn := { np := 2, body := impl_JoinBoxes_1_1.b, res := [.tmp 3] }
def impl_JoinBoxes_1_1.k (M : Nat → Option Body) : Prop := M 477 = some (.code impl_JoinBoxes_1_1.m)
def impl_JoinBoxes_1.b : C := .seq (.reg [⟨some 3, .box (.t 1), none⟩,
    ⟨some 4, .mv (.k (.int .i64 0)), none⟩] [0, 3] [3])
  (.seq (.reg [⟨some 5, .mv (.t 0), none⟩,
    ⟨some 6, .mkfn 477 [.t 3], none⟩,
    ⟨some 7, .call 200 [.t 5, .t 6] [] [], none⟩,
    ⟨some 4, .mv (.t 7), none⟩] [4] [])
  (.ret))
def impl_JoinBoxes_1.m : Fn := { np := 2, body := impl_JoinBoxes_1.b, res := [.tmp 4] }
def impl_JoinBoxes_1.k (M : Nat → Option Body) : Prop := M 476 = some (.code impl_JoinBoxes_1.m) ∧ slices_IndexFunc_impl_Box_impl_Box.k M ∧ impl_JoinBoxes_1_1.k M
def slices_DeleteFunc_impl_Box_impl_Box.l0 : C := .seq (.seq (.reg [⟨some 16, .mv (.t 6), none⟩,
    ⟨some 17, .mv (.t 0), none⟩,
    ⟨some 18, .len (.t 17), none⟩,
    ⟨some 19, .bin .lss (.t 16) (.t 18), none⟩] [0, 1, 5, 6, 19] [0])
  (.cond (.t 19) (.skip) (.exit 0)))
  (.seq (.block 1 (.seq (.reg [⟨some 22, .mv (.t 0), none⟩,
    ⟨some 23, .mv (.t 6), none⟩,
    ⟨some 24, .iaddr 7 (.t 22) (.t 23), none⟩,
    ⟨some 25, .load true 7 (.t 24), none⟩,
    ⟨some 7, .alloc [.int .i64 0, .str ⟨#[]⟩, .int .i64 0, .int .i64 0, .int .i64 0, .nils 4, .nils 1], none⟩,
    ⟨none, .store 7 (.t 7) (.t 25), none⟩] [0, 1, 5, 6, 7] [0, 7])
  (.seq (.reg [⟨some 26, .mv (.t 1), none⟩,
    ⟨some 27, .load true 7 (.t 7), none⟩,
    ⟨some 28, .callv (.t 26) [.t 27], none⟩,
    ⟨some 29, .not (.t 28), none⟩] [0, 1, 5, 6, 7, 29] [0, 7])
  (.cond (.t 29) (.seq (.reg [⟨some 30, .mv (.t 0), none⟩,
    ⟨some 31, .mv (.t 5), none⟩,
    ⟨some 32, .load true 7 (.t 7), none⟩,
    ⟨some 33, .iaddr 7 (.t 30) (.t 31), none⟩,
    ⟨none, .store 7 (.t 33) (.t 32), none⟩] [0, 1, 5, 6] [0])
  (.reg [⟨some 34, .mv (.t 5), none⟩,
    ⟨some 35, .bin .add (.t 34) (.k (.int .i64 1)), none⟩,
    ⟨some 5, .mv (.t 35), none⟩] [0, 1, 5, 6] [0])) (.skip)))))
  (.reg [⟨some 20, .mv (.t 6), none⟩,
    ⟨some 21, .bin .add (.t 20) (.k (.int .i64 1)), none⟩,
    ⟨some 6, .mv (.t 21), none⟩] [0, 1, 5, 6] [0]))
def slices_DeleteFunc_impl_Box_impl_Box.b : C := .seq (.reg [⟨some 4, .nil 7, none⟩] [0, 1] [0])
  (.seq (.reg [⟨some 8, .mv (.t 0), none⟩,
    ⟨some 9, .mv (.t 1), none⟩,
    ⟨some 10, .call 200 [.t 8, .t 9] [] [], none⟩,
    ⟨some 5, .mv (.t 10), none⟩] [0, 1, 5] [0])
  (.seq (.seq (.reg [⟨some 11, .mv (.t 5), none⟩,
    ⟨some 12, .bin .eql (.t 11) (.k (.int .i64 (-1))), none⟩] [0, 1, 5, 12] [0])
  (.cond (.t 12) (.seq (.reg [⟨some 13, .mv (.t 0), none⟩,
    ⟨some 4, .mv (.t 13), none⟩] [4] [0, 4])
  (.ret)) (.skip)))
  (.seq (.seq (.reg [⟨some 14, .mv (.t 5), none⟩,
    ⟨some 15, .bin .add (.t 14) (.k (.int .i64 1)), none⟩,
    ⟨some 6, .mv (.t 15), none⟩] [0, 1, 5, 6] [0])
  (.block 0 (.loop slices_DeleteFunc_impl_Box_impl_Box.l0)))
  (.seq (.reg [⟨some 36, .mv (.t 0), none⟩,
    ⟨some 37, .mv (.t 5), none⟩,
    ⟨some 38, .slc 7 (.t 36) (some (.t 37)) none none, none⟩,
    ⟨none, .clr [.int .i64 0, .str ⟨#[]⟩, .int .i64 0, .int .i64 0, .int .i64 0, .nils 4, .nils 1] (.t 38), none⟩] [0, 5] [0])
  (.seq (.reg [⟨some 39, .mv (.t 0), none⟩,
    ⟨some 40, .mv (.t 5), none⟩,
    ⟨some 41, .slc 7 (.t 39) none (some (.t 40)) none, none⟩,
    ⟨some 4, .mv (.t 41), none⟩] [4] [0, 4])
  (.ret))))))
def slices_DeleteFunc_impl_Box_impl_Box.m : Fn := { np := 2, body := slices_DeleteFunc_impl_Box_impl_Box.b, res := [.tmp 4] }
def slices_DeleteFunc_impl_Box_impl_Box.k (M : Nat → Option Body) : Prop := M 478 = some (.code slices_DeleteFunc_impl_Box_impl_Box.m) ∧ slices_IndexFunc_impl_Box_impl_Box.k M
def impl_JoinBoxes_2.b : C := .seq (.reg [⟨some 2, .box (.t 0), none⟩,
    ⟨some 3, .mv (.k (.bool false)), none⟩] [1, 2] [2])
  (.seq (.reg [⟨some 4, .load false 1 (.t 1), none⟩,
    ⟨some 5, .faddr 0 (.t 2), none⟩,
    ⟨some 6, .load false 1 (.t 5), none⟩,
    ⟨some 7, .call 156 [.t 4, .t 6] [] [], none⟩,
    ⟨some 3, .mv (.t 7), none⟩] [3] [])
  (.ret))
def impl_JoinBoxes_2.m : Fn := { np := 2, body := impl_JoinBoxes_2.b, res := [.tmp 3] }
def impl_JoinBoxes_2.k (M : Nat → Option Body) : Prop := M 479 = some (.code impl_JoinBoxes_2.m) ∧ slices_Contains_int_int.k M
def slices_insertionSortCmpFunc_impl_Box.l1 : C := .seq (.seq (.regd [⟨some 18, .mv (.t 9), none⟩,
    ⟨some 19, .mv (.t 1), none⟩,
    ⟨some 20, .bin .gtr (.t 18) (.t 19), none⟩,
    ⟨some 21, .mv (.t 20), none⟩,
    ⟨some 22, .mv (.t 3), some (21, true)⟩,
    ⟨some 23, .mv (.t 0), some (21, true)⟩,
    ⟨some 24, .mv (.t 9), some (21, true)⟩,
    ⟨some 25, .iaddr 7 (.t 23) (.t 24), some (21, true)⟩,
    ⟨some 26, .load true 7 (.t 25), some (21, true)⟩,
    ⟨some 27, .mv (.t 0), some (21, true)⟩,
    ⟨some 28, .mv (.t 9), some (21, true)⟩,
    ⟨some 29, .bin .sub (.t 28) (.k (.int .i64 1)), some (21, true)⟩,
    ⟨some 30, .iaddr 7 (.t 27) (.t 29), some (21, true)⟩,
    ⟨some 31, .load true 7 (.t 30), some (21, true)⟩,
    ⟨some 32, .callv (.t 22) [.t 26, .t 31], some (21, true)⟩,
    ⟨some 33, .bin .lss (.t 32) (.k (.int .i64 0)), some (21, true)⟩,
    ⟨some 34, .pick (.t 21) (.t 33) (.k (.bool false)), none⟩] [[], [], [0, 1], [0, 1, 2], List.range 4, List.range 4, List.range 4, List.range 4 ++ [5, 6], List.range 4 ++ [5, 6, 7], List.range 4, List.range 4, List.range 4 ++ [10], List.range 4 ++ [9, 10, 11], List.range 4 ++ [9, 10, 11, 12], List.range 14, List.range 15, List.range 16] [0, 1, 2, 3, 8, 9, 34] [0])
  (.cond (.t 34) (.skip) (.exit 2)))
  (.seq (.block 3 (.regd [⟨some 37, .mv (.t 0), none⟩,
    ⟨some 38, .mv (.t 9), none⟩,
    ⟨some 39, .mv (.t 0), none⟩,
    ⟨some 40, .mv (.t 9), none⟩,
    ⟨some 41, .bin .sub (.t 40) (.k (.int .i64 1)), none⟩,
    ⟨some 42, .mv (.t 0), none⟩,
    ⟨some 43, .mv (.t 9), none⟩,
    ⟨some 44, .bin .sub (.t 43) (.k (.int .i64 1)), none⟩,
    ⟨some 45, .iaddr 7 (.t 42) (.t 44), none⟩,
    ⟨some 46, .load true 7 (.t 45), none⟩,
    ⟨some 47, .mv (.t 0), none⟩,
    ⟨some 48, .mv (.t 9), none⟩,
    ⟨some 49, .iaddr 7 (.t 47) (.t 48), none⟩,
    ⟨some 50, .load true 7 (.t 49), none⟩,
    ⟨some 51, .iaddr 7 (.t 37) (.t 38), none⟩,
    ⟨none, .store 7 (.t 51) (.t 46), none⟩,
    ⟨some 52, .iaddr 7 (.t 39) (.t 41), none⟩,
    ⟨none, .store 7 (.t 52) (.t 50), none⟩] [[], [], [], [], [3], [], [], [6], [5, 6, 7], [5, 6, 7, 8], [], [], [10, 11], [10, 11, 12], [0, 1, 5, 6, 7, 8, 9, 10, 11, 12, 13], [0, 1, 5, 6, 7, 8, 9, 10, 11, 12, 13, 14], List.range 16, List.range 17] [0, 1, 2, 3, 8, 9] [0]))
  (.reg [⟨some 35, .mv (.t 9), none⟩,
    ⟨some 36, .bin .sub (.t 35) (.k (.int .i64 1)), none⟩,
    ⟨some 9, .mv (.t 36), none⟩] [0, 1, 2, 3, 8, 9] [0]))
def slices_insertionSortCmpFunc_impl_Box.l0 : C := .seq (.seq (.reg [⟨some 12, .mv (.t 8), none⟩,
    ⟨some 13, .mv (.t 2), none⟩,
    ⟨some 14, .bin .lss (.t 12) (.t 13), none⟩] [0, 1, 2, 3, 8, 14] [0])
  (.cond (.t 14) (.skip) (.exit 0)))
  (.seq (.block 1 (.seq (.reg [⟨some 17, .mv (.t 8), none⟩,
    ⟨some 9, .mv (.t 17), none⟩] [0, 1, 2, 3, 8, 9] [0])
  (.block 2 (.loop slices_insertionSortCmpFunc_impl_Box.l1))))
  (.reg [⟨some 15, .mv (.t 8), none⟩,
    ⟨some 16, .bin .add (.t 15) (.k (.int .i64 1)), none⟩,
    ⟨some 8, .mv (.t 16), none⟩] [0, 1, 2, 3, 8] [0]))
def slices_insertionSortCmpFunc_impl_Box.b : C := .seq (.reg [⟨some 10, .mv (.t 1), none⟩,
    ⟨some 11, .bin .add (.t 10) (.k (.int .i64 1)), none⟩,
    ⟨some 8, .mv (.t 11), none⟩] [0, 1, 2, 3, 8] [0])
  (.block 0 (.loop slices_insertionSortCmpFunc_impl_Box.l0))
def slices_insertionSortCmpFunc_impl_Box.m : Fn := { np := 4, body := slices_insertionSortCmpFunc_impl_Box.b, res := [] }
def slices_insertionSortCmpFunc_impl_Box.k (M : Nat → Option Body) : Prop := M 492 = some (.code slices_insertionSortCmpFunc_impl_Box.m)
def slices_stableCmpFunc_impl_Box.l0 : C := .seq (.seq (.reg [⟨some 11, .mv (.t 8), none⟩,
    ⟨some 12, .mv (.t 1), none⟩,
    ⟨some 13, .bin .leq (.t 11) (.t 12), none⟩] [0, 1, 2, 6, 7, 8, 13] [0])
  (.cond (.t 13) (.skip) (.exit 0)))
  (.block 1 (.seq (.reg [⟨some 14, .mv (.t 0), none⟩,
    ⟨some 15, .mv (.t 7), none⟩,
    ⟨some 16, .mv (.t 8), none⟩,
    ⟨some 17, .mv (.t 2), none⟩,
    ⟨some 18, .call 492 [.t 14, .t 15, .t 16, .t 17] [0] [], none⟩] [0, 1, 2, 6, 8] [0])
  (.seq (.reg [⟨some 19, .mv (.t 8), none⟩,
    ⟨some 7, .mv (.t 19), none⟩] [0, 1, 2, 6, 7, 8] [0])
  (.reg [⟨some 20, .mv (.t 8), none⟩,
    ⟨some 21, .mv (.t 6), none⟩,
    ⟨some 22, .bin .add (.t 20) (.t 21), none⟩,
    ⟨some 8, .mv (.t 22), none⟩] [0, 1, 2, 6, 7, 8] [0]))))
def slices_stableCmpFunc_impl_Box.l2 : C := .seq (.seq (.reg [⟨some 33, .mv (.t 8), none⟩,
    ⟨some 34, .mv (.t 1), none⟩,
    ⟨some 35, .bin .leq (.t 33) (.t 34), none⟩] [0, 1, 2, 6, 7, 8, 35] [0])
  (.cond (.t 35) (.skip) (.exit 4)))
  (.block 5 (.seq (.reg [⟨some 36, .mv (.t 0), none⟩,
    ⟨some 37, .mv (.t 7), none⟩,
    ⟨some 38, .mv (.t 7), none⟩,
    ⟨some 39, .mv (.t 6), none⟩,
    ⟨some 40, .bin .add (.t 38) (.t 39), none⟩,
    ⟨some 41, .mv (.t 8), none⟩,
    ⟨some 42, .mv (.t 2), none⟩,
    ⟨some 43, .call 493 [.t 36, .t 37, .t 40, .t 41, .t 42] [0] [], none⟩] [0, 1, 2, 6, 8] [0])
  (.seq (.reg [⟨some 44, .mv (.t 8), none⟩,
    ⟨some 7, .mv (.t 44), none⟩] [0, 1, 2, 6, 7, 8] [0])
  (.reg [⟨some 45, .mv (.t 8), none⟩,
    ⟨some 46, .mv (.t 6), none⟩,
    ⟨some 47, .bin .mul (.k (.int .i64 2)) (.t 46), none⟩,
    ⟨some 48, .bin .add (.t 45) (.t 47), none⟩,
    ⟨some 8, .mv (.t 48), none⟩] [0, 1, 2, 6, 7, 8] [0]))))
def slices_stableCmpFunc_impl_Box.l1 : C := .seq (.seq (.reg [⟨some 28, .mv (.t 6), none⟩,
    ⟨some 29, .mv (.t 1), none⟩,
    ⟨some 30, .bin .lss (.t 28) (.t 29), none⟩] [0, 1, 2, 6, 30] [0])
  (.cond (.t 30) (.skip) (.exit 2)))
  (.block 3 (.seq (.reg [⟨some 31, .mv (.t 6), none⟩,
    ⟨some 32, .bin .mul (.k (.int .i64 2)) (.t 31), none⟩,
    ⟨some 7, .mv (.k (.int .i64 0)), none⟩,
    ⟨some 8, .mv (.t 32), none⟩] [0, 1, 2, 6, 7, 8] [0])
  (.seq (.block 4 (.loop slices_stableCmpFunc_impl_Box.l2))
  (.seq (.seq (.reg [⟨some 49, .mv (.t 7), none⟩,
    ⟨some 50, .mv (.t 6), none⟩,
    ⟨some 51, .bin .add (.t 49) (.t 50), none⟩,
    ⟨some 9, .mv (.t 51), none⟩] [0, 1, 2, 6, 7, 9] [0])
  (.seq (.reg [⟨some 52, .mv (.t 9), none⟩,
    ⟨some 53, .mv (.t 1), none⟩,
    ⟨some 54, .bin .lss (.t 52) (.t 53), none⟩] [0, 1, 2, 6, 7, 9, 54] [0])
  (.cond (.t 54) (.reg [⟨some 55, .mv (.t 0), none⟩,
    ⟨some 56, .mv (.t 7), none⟩,
    ⟨some 57, .mv (.t 9), none⟩,
    ⟨some 58, .mv (.t 1), none⟩,
    ⟨some 59, .mv (.t 2), none⟩,
    ⟨some 60, .call 493 [.t 55, .t 56, .t 57, .t 58, .t 59] [0] [], none⟩] [0, 1, 2, 6] [0]) (.skip))))
  (.reg [⟨some 61, .mv (.t 6), none⟩,
    ⟨some 62, .bin .mul (.t 61) (.k (.int .i64 2)), none⟩,
    ⟨some 6, .mv (.t 62), none⟩] [0, 1, 2, 6] [0])))))
def slices_stableCmpFunc_impl_Box.b : C := .seq (.reg [⟨some 6, .mv (.k (.int .i64 20)), none⟩] [0, 1, 2, 6] [0])
  (.seq (.reg [⟨some 10, .mv (.t 6), none⟩,
    ⟨some 7, .mv (.k (.int .i64 0)), none⟩,
    ⟨some 8, .mv (.t 10), none⟩] [0, 1, 2, 6, 7, 8] [0])
  (.seq (.block 0 (.loop slices_stableCmpFunc_impl_Box.l0))
  (.seq (.reg [⟨some 23, .mv (.t 0), none⟩,
    ⟨some 24, .mv (.t 7), none⟩,
    ⟨some 25, .mv (.t 1), none⟩,
    ⟨some 26, .mv (.t 2), none⟩,
    ⟨some 27, .call 492 [.t 23, .t 24, .t 25, .t 26] [0] [], none⟩] [0, 1, 2, 6] [0])
  (.block 2 (.loop slices_stableCmpFunc_impl_Box.l1)))))
def slices_stableCmpFunc_impl_Box.m : Fn := { np := 3, body := slices_stableCmpFunc_impl_Box.b, res := [] }
def slices_stableCmpFunc_impl_Box.k (M : Nat → Option Body) : Prop := M 490 = some (.code slices_stableCmpFunc_impl_Box.m) ∧ slices_insertionSortCmpFunc_impl_Box.k M
def slices_SortStableFunc_impl_Box_impl_Box.b : C := .reg [⟨some 4, .mv (.t 0), none⟩,
    ⟨some 5, .mv (.t 0), none⟩,
    ⟨some 6, .len (.t 5), none⟩,
    ⟨some 7, .mv (.t 1), none⟩,
    ⟨some 8, .call 490 [.t 4, .t 6, .t 7] [0] [], none⟩] [] [0]
def slices_SortStableFunc_impl_Box_impl_Box.m : Fn := { np := 2, body := slices_SortStableFunc_impl_Box_impl_Box.b, res := [] }
def slices_SortStableFunc_impl_Box_impl_Box.k (M : Nat → Option Body) : Prop := M 480 = some (.code slices_SortStableFunc_impl_Box_impl_Box.m) ∧ slices_stableCmpFunc_impl_Box.k M
def impl_JoinBoxes_3.b : C := .seq (.reg [⟨some 2, .box (.t 0), none⟩,
    ⟨some 3, .box (.t 1), none⟩,
    ⟨some 4, .mv (.k (.int .i64 0)), none⟩] [2, 3] [2, 3])
  (.seq (.reg [⟨some 5, .faddr 0 (.t 2), none⟩,
    ⟨some 6, .load false 1 (.t 5), none⟩,
    ⟨some 7, .faddr 0 (.t 3), none⟩,
    ⟨some 8, .load false 1 (.t 7), none⟩,
    ⟨some 9, .call 457 [.t 6, .t 8] [] [], none⟩,
    ⟨some 4, .mv (.t 9), none⟩] [4] [])
  (.ret))
def impl_JoinBoxes_3.m : Fn := { np := 2, body := impl_JoinBoxes_3.b, res := [.tmp 4] }
def impl_JoinBoxes_3.k (M : Nat → Option Body) : Prop := M 481 = some (.code impl_JoinBoxes_3.m) ∧ impl_compare.k M
def slices_ContainsFunc_impl_Box_impl_Box.b : C := .seq (.reg [⟨some 4, .mv (.k (.bool false)), none⟩] [0, 1] [])
  (.seq (.reg [⟨some 5, .mv (.t 0), none⟩,
    ⟨some 6, .mv (.t 1), none⟩,
    ⟨some 7, .call 200 [.t 5, .t 6] [] [], none⟩,
    ⟨some 8, .bin .geq (.t 7) (.k (.int .i64 0)), none⟩,
    ⟨some 4, .mv (.t 8), none⟩] [4] [])
  (.ret))
def slices_ContainsFunc_impl_Box_impl_Box.m : Fn := { np := 2, body := slices_ContainsFunc_impl_Box_impl_Box.b, res := [.tmp 4] }
def slices_ContainsFunc_impl_Box_impl_Box.k (M : Nat → Option Body) : Prop := M 482 = some (.code slices_ContainsFunc_impl_Box_impl_Box.m) ∧ slices_IndexFunc_impl_Box_impl_Box.k M
def impl_JoinBoxes_4.b : C := .seq (.reg [⟨some 2, .box (.t 0), none⟩,
    ⟨some 3, .mv (.k (.bool false)), none⟩] [1, 2] [2])
  (.seq (.reg [⟨some 4, .faddr 1 (.t 2), none⟩,
    ⟨some 5, .load false 1 (.t 4), none⟩,
    ⟨some 6, .faddr 1 (.t 1), none⟩,
    ⟨some 7, .load false 1 (.t 6), none⟩,
    ⟨some 8, .bin .eql (.t 5) (.t 7), none⟩,
    ⟨some 3, .mv (.t 8), none⟩] [3] [])
  (.ret))
def impl_JoinBoxes_4.m : Fn := { np := 2, body := impl_JoinBoxes_4.b, res := [.tmp 3] }
def impl_JoinBoxes_4.k (M : Nat → Option Body) : Prop := M 483 = some (.code impl_JoinBoxes_4.m)
def impl_OtherName.b : C := .seq (.reg [⟨some 4, .mv (.k (.str ⟨#[]⟩)), none⟩] [0, 1] [])
  (.seq (.reg [⟨some 7, .mv (.t 0), none⟩,
    ⟨some 8, .mv (.t 0), none⟩,
    ⟨some 9, .slen (.t 8), none⟩,
    ⟨some 10, .min (.k (.int .i64 6)) (.t 9), none⟩,
    ⟨some 11, .sstr (.t 7) none (some (.t 10)), none⟩,
    ⟨some 12, .bin .add (.t 11) (.k (.str ⟨#[120]⟩)), none⟩,
    ⟨some 5, .mv (.t 12), none⟩] [1, 5] [])
  (.seq (.seq (.reg [⟨some 13, .mv (.t 1), none⟩,
    ⟨some 14, .bin .gtr (.t 13) (.k (.int .i64 0)), none⟩] [1, 5, 14] [])
  (.cond (.t 14) (.seq (.reg [⟨some 15, .mv (.t 1), none⟩,
    ⟨some 16, .call 128 [.t 15] [] [], none⟩,
    ⟨some 6, .mv (.t 16), none⟩] [5, 6] [])
  (.reg [⟨some 17, .mv (.t 5), none⟩,
    ⟨some 18, .mv (.t 6), none⟩,
    ⟨some 19, .mv (.t 6), none⟩,
    ⟨some 20, .slen (.t 19), none⟩,
    ⟨some 21, .bin .sub (.t 20) (.k (.int .i64 5)), none⟩,
    ⟨some 22, .max (.k (.int .i64 0)) (.t 21), none⟩,
    ⟨some 23, .sstr (.t 18) (some (.t 22)) none, none⟩,
    ⟨some 24, .bin .add (.t 17) (.t 23), none⟩,
    ⟨some 5, .mv (.t 24), none⟩] [5] [])) (.skip)))
  (.seq (.reg [⟨some 25, .mv (.t 5), none⟩,
    ⟨some 4, .mv (.t 25), none⟩] [4] [])
  (.ret))))
def impl_OtherName.m : Fn := { np := 2, body := impl_OtherName.b, res := [.tmp 4] }
def impl_OtherName.k (M : Nat → Option Body) : Prop := M 484 = some (.code impl_OtherName.m) ∧ impl_Decimal.k M
def impl_JoinBoxes.l0 : C := .seq (.reg [⟨some 20, .bin .lss (.t 19) (.t 18), none⟩] [0, 1, 5, 7, 8, 17, 18, 19, 20] [5, 16, 40, 58, 16200])
  (.seq (.cond (.t 20) (.skip) (.exit 0))
  (.seq (.block 1 (.seq (.reg [⟨some 21, .iaddr 7 (.t 17) (.t 19), none⟩,
    ⟨some 22, .load true 7 (.t 21), none⟩,
    ⟨some 10, .alloc [.int .i64 0, .str ⟨#[]⟩, .int .i64 0, .int .i64 0, .int .i64 0, .nils 4, .nils 1], none⟩,
    ⟨none, .store 7 (.t 10) (.t 22), none⟩] [0, 1, 5, 7, 8, 10, 17, 18, 19] [5, 10, 16, 40, 58, 16200])
  (.seq (.seq (.reg [⟨some 23, .mv (.t 8), none⟩,
    ⟨some 24, .mv (.t 1), none⟩,
    ⟨some 25, .faddr 0 (.t 10), none⟩,
    ⟨some 26, .load false 1 (.t 25), none⟩,
    ⟨some 27, .callv (.t 23) [.t 24, .t 26], none⟩,
    ⟨some 11, .mv (.t 27), none⟩] [0, 1, 5, 7, 8, 10, 11, 17, 18, 19] [5, 10, 16, 40, 58, 16200])
  (.seq (.reg [⟨some 28, .mv (.t 11), none⟩,
    ⟨some 29, .bin .geq (.t 28) (.k (.int .i64 0)), none⟩] [0, 1, 5, 7, 8, 10, 11, 17, 18, 19, 29] [5, 10, 16, 40, 58, 16200])
  (.cond (.t 29) (.regd [⟨some 30, .load true 7 (.t 10), none⟩,
    ⟨some 31, .mv (.t 1), none⟩,
    ⟨some 32, .mv (.t 11), none⟩,
    ⟨some 33, .iaddr 7 (.t 31) (.t 32), none⟩,
    ⟨some 34, .load true 7 (.t 33), none⟩,
    ⟨some 35, .call 401 [.t 30, .t 34] [] [], none⟩,
    ⟨none, .store 7 (.t 10) (.t 35), none⟩] [[], [], [], [1, 2], [1, 2, 3], List.range 5, List.range 6] [0, 1, 5, 7, 8, 10, 17, 18, 19] [5, 10, 16, 40, 58, 16200]) (.skip))))
  (.reg [⟨some 36, .mv (.t 7), none⟩,
    ⟨some 37, .load true 7 (.t 10), none⟩,
    ⟨some 38, .call 155 [.t 37] [] [], none⟩,
    ⟨some 39, .bslice 7 1 [.int .i64 0, .str ⟨#[]⟩, .int .i64 0, .int .i64 0, .int .i64 0, .nils 4, .nils 1] [(0, .t 38)], none⟩,
    ⟨some 40, .app 7 96 (.t 36) (.t 39), none⟩,
    ⟨some 7, .mv (.t 40), none⟩] [0, 1, 5, 7, 8, 17, 18, 19] [5, 16, 40, 58, 16200]))))
  (.reg [⟨some 41, .bin .add (.t 19) (.k (.int .i64 1)), none⟩,
    ⟨some 19, .mv (.t 41), none⟩] [0, 1, 5, 7, 8, 17, 18, 19] [5, 16, 40, 58, 16200])))
def impl_JoinBoxes.l1 : C := .seq (.reg [⟨some 45, .bin .lss (.t 44) (.t 43), none⟩] [0, 5, 7, 8, 42, 43, 44, 45] [5, 16, 40, 58, 16200])
  (.seq (.cond (.t 45) (.skip) (.exit 2))
  (.seq (.block 3 (.seq (.reg [⟨some 46, .iaddr 7 (.t 42) (.t 44), none⟩,
    ⟨some 47, .load true 7 (.t 46), none⟩,
    ⟨some 13, .alloc [.int .i64 0, .str ⟨#[]⟩, .int .i64 0, .int .i64 0, .int .i64 0, .nils 4, .nils 1], none⟩,
    ⟨none, .store 7 (.t 13) (.t 47), none⟩] [0, 5, 7, 8, 13, 42, 43, 44] [5, 13, 16, 40, 58, 16200])
  (.seq (.reg [⟨some 48, .mv (.t 8), none⟩,
    ⟨some 49, .mv (.t 0), none⟩,
    ⟨some 50, .faddr 0 (.t 13), none⟩,
    ⟨some 51, .load false 1 (.t 50), none⟩,
    ⟨some 52, .callv (.t 48) [.t 49, .t 51], none⟩,
    ⟨some 53, .bin .lss (.t 52) (.k (.int .i64 0)), none⟩] [0, 5, 7, 8, 13, 42, 43, 44, 53] [5, 13, 16, 40, 58, 16200])
  (.cond (.t 53) (.reg [⟨some 54, .mv (.t 7), none⟩,
    ⟨some 55, .load true 7 (.t 13), none⟩,
    ⟨some 56, .call 155 [.t 55] [] [], none⟩,
    ⟨some 57, .bslice 7 1 [.int .i64 0, .str ⟨#[]⟩, .int .i64 0, .int .i64 0, .int .i64 0, .nils 4, .nils 1] [(0, .t 56)], none⟩,
    ⟨some 58, .app 7 96 (.t 54) (.t 57), none⟩,
    ⟨some 7, .mv (.t 58), none⟩] [0, 5, 7, 8, 42, 43, 44] [5, 16, 40, 58, 16200]) (.skip)))))
  (.reg [⟨some 59, .bin .add (.t 44) (.k (.int .i64 1)), none⟩,
    ⟨some 44, .mv (.t 59), none⟩] [0, 5, 7, 8, 42, 43, 44] [5, 16, 40, 58, 16200])))
def impl_JoinBoxes.l2 : C := .seq (.reg [⟨some 68, .bin .lss (.t 67) (.t 66), none⟩] [7, 65, 66, 67, 68] [16, 40, 58, 16200])
  (.seq (.cond (.t 68) (.skip) (.exit 4))
  (.seq (.block 5 (.seq (.reg [⟨some 69, .mv (.t 67), none⟩,
    ⟨some 70, .iaddr 7 (.t 65) (.t 67), none⟩,
    ⟨some 71, .load true 7 (.t 70), none⟩,
    ⟨some 15, .alloc [.int .i64 0, .str ⟨#[]⟩, .int .i64 0, .int .i64 0, .int .i64 0, .nils 4, .nils 1], none⟩,
    ⟨some 14, .mv (.t 69), none⟩,
    ⟨none, .store 7 (.t 15) (.t 71), none⟩] [7, 14, 15, 65, 66, 67] [15, 16, 40, 58, 16200])
  (.seq (.reg [⟨some 72, .mv (.t 7), none⟩,
    ⟨some 73, .mv (.t 14), none⟩,
    ⟨some 74, .slc 7 (.t 72) none (some (.t 73)) none, none⟩,
    ⟨some 75, .mkfn 483 [.t 15], none⟩,
    ⟨some 76, .call 482 [.t 74, .t 75] [] [], none⟩] [7, 14, 15, 65, 66, 67, 76] [15, 16, 40, 58, 16200])
  (.cond (.t 76) (.reg [⟨some 77, .mv (.t 7), none⟩,
    ⟨some 78, .mv (.t 14), none⟩,
    ⟨some 79, .faddr 1 (.t 15), none⟩,
    ⟨some 80, .load false 1 (.t 79), none⟩,
    ⟨some 81, .faddr 0 (.t 15), none⟩,
    ⟨some 82, .load false 1 (.t 81), none⟩,
    ⟨some 83, .call 484 [.t 80, .t 82] [] [], none⟩,
    ⟨some 84, .iaddr 7 (.t 77) (.t 78), none⟩,
    ⟨some 85, .faddr 1 (.t 84), none⟩,
    ⟨none, .store 1 (.t 85) (.t 83), none⟩] [7, 65, 66, 67] [16, 40, 58, 16200]) (.skip)))))
  (.reg [⟨some 86, .bin .add (.t 67) (.k (.int .i64 1)), none⟩,
    ⟨some 67, .mv (.t 86), none⟩] [7, 65, 66, 67] [16, 40, 58, 16200])))
def impl_JoinBoxes.b : C := .seq (.reg [⟨some 5, .box (.t 2), none⟩,
    ⟨some 6, .nil 7, none⟩] [0, 1, 5] [5])
  (.seq (.reg [⟨some 16, .bslice 7 0 [.int .i64 0, .str ⟨#[]⟩, .int .i64 0, .int .i64 0, .int .i64 0, .nils 4, .nils 1] [], none⟩,
    ⟨some 7, .mv (.t 16), none⟩] [0, 1, 5, 7] [5, 16, 40, 58, 16200])
  (.seq (.reg [⟨some 8, .mv (.fn 476), none⟩] [0, 1, 5, 7, 8] [5, 16, 40, 58, 16200])
  (.seq (.seq (.reg [⟨some 17, .mv (.t 0), none⟩,
    ⟨some 18, .len (.t 17), none⟩,
    ⟨some 19, .mv (.k (.int .i64 0)), none⟩] [0, 1, 5, 7, 8, 17, 18, 19] [5, 16, 40, 58, 16200])
  (.block 0 (.loop impl_JoinBoxes.l0)))
  (.seq (.seq (.reg [⟨some 42, .mv (.t 1), none⟩,
    ⟨some 43, .len (.t 42), none⟩,
    ⟨some 44, .mv (.k (.int .i64 0)), none⟩] [0, 5, 7, 8, 42, 43, 44] [5, 16, 40, 58, 16200])
  (.block 2 (.loop impl_JoinBoxes.l1)))
  (.seq (.shut [5] (.reg [⟨some 60, .mv (.t 7), none⟩,
    ⟨some 61, .mkfn 479 [.t 5], none⟩,
    ⟨some 62, .call 478 [.t 60, .t 61] [0] [(0, 16200)], none⟩,
    ⟨some 7, .mv (.t 62), none⟩] [7] [16, 40, 58, 16200]))
  (.seq (.reg [⟨some 63, .mv (.t 7), none⟩,
    ⟨some 64, .call 480 [.t 63, .fn 481] [0] [], none⟩] [7] [16, 40, 58, 16200])
  (.seq (.seq (.reg [⟨some 65, .mv (.t 7), none⟩,
    ⟨some 66, .len (.t 65), none⟩,
    ⟨some 67, .mv (.k (.int .i64 0)), none⟩] [7, 65, 66, 67] [16, 40, 58, 16200])
  (.block 4 (.loop impl_JoinBoxes.l2)))
  (.seq (.reg [⟨some 87, .mv (.t 7), none⟩,
    ⟨some 6, .mv (.t 87), none⟩] [6] [6, 16, 40, 58, 16200])
  (.ret)))))))))
def impl_JoinBoxes.m : Fn := { np := 3, body := impl_JoinBoxes.b, res := [.tmp 6] }
def impl_JoinBoxes.k (M : Nat → Option Body) : Prop := M 467 = some (.code impl_JoinBoxes.m) ∧ impl_copyBox.k M ∧ impl_JoinBox.k M ∧ impl_JoinBoxes_1.k M ∧ slices_DeleteFunc_impl_Box_impl_Box.k M ∧ impl_JoinBoxes_2.k M ∧ slices_SortStableFunc_impl_Box_impl_Box.k M ∧ impl_JoinBoxes_3.k M ∧ slices_ContainsFunc_impl_Box_impl_Box.k M ∧ impl_JoinBoxes_4.k M ∧ impl_OtherName.k M
def impl_JoinStore.l1 : C := .seq (.reg [⟨some 49, .bin .lss (.t 48) (.t 47), none⟩] [4, 6, 7, 8, 9, 10, 37, 38, 39, 46, 47, 48, 49] [4, 6, 9, 35, 44, 60, 73, 11900, 13300])
  (.seq (.cond (.t 49) (.skip) (.exit 2))
  (.seq (.block 3 (.seq (.reg [⟨some 50, .iaddr 4 (.t 46) (.t 48), none⟩,
    ⟨some 51, .load true 4 (.t 50), none⟩,
    ⟨some 12, .alloc [.int .i64 0, .int .i64 0, .nils 3, .str ⟨#[]⟩], none⟩,
    ⟨none, .store 4 (.t 12) (.t 51), none⟩] [4, 6, 7, 8, 9, 10, 12, 37, 38, 39, 46, 47, 48] [4, 6, 9, 12, 35, 44, 60, 73, 11900, 13300])
  (.seq (.reg [⟨some 52, .mv (.t 7), none⟩,
    ⟨some 53, .faddr 0 (.t 12), none⟩,
    ⟨some 54, .load false 1 (.t 53), none⟩,
    ⟨some 55, .call 156 [.t 52, .t 54] [] [], none⟩,
    ⟨some 56, .not (.t 55), none⟩] [4, 6, 7, 8, 9, 10, 12, 37, 38, 39, 46, 47, 48, 56] [4, 6, 9, 12, 35, 44, 60, 73, 11900, 13300])
  (.cond (.t 56) (.reg [⟨some 57, .mv (.t 10), none⟩,
    ⟨some 58, .load true 4 (.t 12), none⟩,
    ⟨some 59, .bslice 4 1 [.int .i64 0, .int .i64 0, .nils 3, .str ⟨#[]⟩] [(0, .t 58)], none⟩,
    ⟨some 60, .app 4 56 (.t 57) (.t 59), none⟩,
    ⟨some 10, .mv (.t 60), none⟩] [4, 6, 7, 8, 9, 10, 37, 38, 39, 46, 47, 48] [4, 6, 9, 35, 44, 60, 73, 11900, 13300]) (.skip)))))
  (.reg [⟨some 61, .bin .add (.t 48) (.k (.int .i64 1)), none⟩,
    ⟨some 48, .mv (.t 61), none⟩] [4, 6, 7, 8, 9, 10, 37, 38, 39, 46, 47, 48] [4, 6, 9, 35, 44, 60, 73, 11900, 13300])))
def impl_JoinStore.l2 : C := .seq (.reg [⟨some 66, .bin .lss (.t 65) (.t 64), none⟩] [4, 6, 7, 8, 10, 37, 38, 39, 63, 64, 65, 66] [4, 6, 35, 44, 60, 73, 11900, 13300])
  (.seq (.cond (.t 66) (.skip) (.exit 4))
  (.seq (.block 5 (.seq (.reg [⟨some 67, .iaddr 4 (.t 63) (.t 65), none⟩,
    ⟨some 68, .load true 4 (.t 67), none⟩,
    ⟨some 14, .alloc [.int .i64 0, .int .i64 0, .nils 3, .str ⟨#[]⟩], none⟩,
    ⟨none, .store 4 (.t 14) (.t 68), none⟩] [4, 6, 7, 8, 10, 14, 37, 38, 39, 63, 64, 65] [4, 6, 14, 35, 44, 60, 73, 11900, 13300])
  (.reg [⟨some 69, .mv (.t 7), none⟩,
    ⟨some 70, .faddr 0 (.t 14), none⟩,
    ⟨some 71, .load false 1 (.t 70), none⟩,
    ⟨some 72, .bslice 1 1 [.int .i64 0] [(0, .t 71)], none⟩,
    ⟨some 73, .app 1 8 (.t 69) (.t 72), none⟩,
    ⟨some 7, .mv (.t 73), none⟩] [4, 6, 7, 8, 10, 37, 38, 39, 63, 64, 65] [4, 6, 35, 44, 60, 73, 11900, 13300])))
  (.reg [⟨some 74, .bin .add (.t 65) (.k (.int .i64 1)), none⟩,
    ⟨some 65, .mv (.t 74), none⟩] [4, 6, 7, 8, 10, 37, 38, 39, 63, 64, 65] [4, 6, 35, 44, 60, 73, 11900, 13300])))
def impl_JoinStore.l0 : C := .seq (.reg [⟨some 40, .bin .lss (.t 39) (.t 38), none⟩] [4, 6, 7, 37, 38, 39, 40] [4, 6, 35, 73, 11900, 13300])
  (.seq (.cond (.t 40) (.skip) (.exit 0))
  (.seq (.block 1 (.seq (.reg [⟨some 41, .mv (.t 39), none⟩,
    ⟨some 42, .iaddr 7 (.t 37) (.t 39), none⟩,
    ⟨some 43, .load true 7 (.t 42), none⟩,
    ⟨some 9, .alloc [.int .i64 0, .str ⟨#[]⟩, .int .i64 0, .int .i64 0, .int .i64 0, .nils 4, .nils 1], none⟩,
    ⟨some 8, .mv (.t 41), none⟩,
    ⟨none, .store 7 (.t 9) (.t 43), none⟩] [4, 6, 7, 8, 9, 37, 38, 39] [4, 6, 9, 35, 73, 11900, 13300])
  (.seq (.reg [⟨some 44, .bslice 4 0 [.int .i64 0, .int .i64 0, .nils 3, .str ⟨#[]⟩] [], none⟩,
    ⟨some 10, .mv (.t 44), none⟩] [4, 6, 7, 8, 9, 10, 37, 38, 39] [4, 6, 9, 35, 44, 60, 73, 11900, 13300])
  (.seq (.seq (.reg [⟨some 45, .faddr 5 (.t 9), none⟩,
    ⟨some 46, .load false 1 (.t 45), none⟩,
    ⟨some 47, .len (.t 46), none⟩,
    ⟨some 48, .mv (.k (.int .i64 0)), none⟩] [4, 6, 7, 8, 9, 10, 37, 38, 39, 46, 47, 48] [4, 6, 9, 35, 44, 60, 73, 11900, 13300])
  (.block 2 (.loop impl_JoinStore.l1)))
  (.seq (.seq (.reg [⟨some 62, .faddr 5 (.t 9), none⟩,
    ⟨some 63, .load false 1 (.t 62), none⟩,
    ⟨some 64, .len (.t 63), none⟩,
    ⟨some 65, .mv (.k (.int .i64 0)), none⟩] [4, 6, 7, 8, 10, 37, 38, 39, 63, 64, 65] [4, 6, 35, 44, 60, 73, 11900, 13300])
  (.block 4 (.loop impl_JoinStore.l2)))
  (.shut [44, 60] (.reg [⟨some 75, .faddr 2 (.t 6), none⟩,
    ⟨some 76, .load false 1 (.t 75), none⟩,
    ⟨some 77, .mv (.t 8), none⟩,
    ⟨some 78, .mv (.t 10), none⟩,
    ⟨some 79, .iaddr 7 (.t 76) (.t 77), none⟩,
    ⟨some 80, .faddr 5 (.t 79), none⟩,
    ⟨none, .store 1 (.t 80) (.t 78), none⟩] [4, 6, 7, 37, 38, 39] [4, 6, 35, 73, 11900, 13300])))))))
  (.reg [⟨some 81, .bin .add (.t 39) (.k (.int .i64 1)), none⟩,
    ⟨some 39, .mv (.t 81), none⟩] [4, 6, 7, 37, 38, 39] [4, 6, 35, 73, 11900, 13300])))
def impl_JoinStore.b : C := .seq (.reg [⟨some 2, .box (.t 0), none⟩,
    ⟨some 3, .box (.t 1), none⟩,
    ⟨some 4, .alloc [.int .i64 0, .int .i64 0, .nils 7, .nils 1], none⟩] [2, 3, 4] [2, 3, 4, 11900, 13300])
  (.seq (.reg [⟨some 15, .faddr 3 (.t 2), none⟩,
    ⟨some 16, .load false 1 (.t 15), none⟩,
    ⟨some 17, .faddr 3 (.t 3), none⟩,
    ⟨some 18, .load false 1 (.t 17), none⟩,
    ⟨some 19, .call 44 [.t 16, .t 18] [] [(0, 11900)], none⟩,
    ⟨some 5, .mv (.t 19), none⟩] [2, 3, 4, 5] [2, 3, 4, 11900, 13300])
  (.seq (.shut [11900] (.regd [⟨some 20, .faddr 0 (.t 2), none⟩,
    ⟨some 21, .load false 1 (.t 20), none⟩,
    ⟨some 22, .faddr 1 (.t 2), none⟩,
    ⟨some 23, .load false 1 (.t 22), none⟩,
    ⟨some 24, .faddr 1 (.t 3), none⟩,
    ⟨some 25, .load false 1 (.t 24), none⟩,
    ⟨some 26, .max (.t 23) (.t 25), none⟩,
    ⟨some 27, .mv (.t 5), none⟩,
    ⟨some 28, .faddr 2 (.t 2), none⟩,
    ⟨some 29, .load false 1 (.t 28), none⟩,
    ⟨some 30, .faddr 2 (.t 3), none⟩,
    ⟨some 31, .load false 1 (.t 30), none⟩,
    ⟨some 32, .mv (.t 5), none⟩,
    ⟨some 33, .call 467 [.t 29, .t 31, .t 32] [] [(0, 13300)], none⟩,
    ⟨some 34, .build [.int .i64 0, .int .i64 0, .nils 7, .nils 1] [(0, 1, .t 21), (1, 1, .t 26), (3, 1, .t 27), (2, 1, .t 33)], none⟩,
    ⟨some 6, .alloc [.int .i64 0, .int .i64 0, .nils 7, .nils 1], none⟩,
    ⟨none, .store 4 (.t 6) (.t 34), none⟩] [[], [0], [], [2], [], [4], [2, 3, 4, 5], [], [], [8], [], [10], [], [8, 9, 10, 11, 12], List.range 14, [], List.range 16] [4, 6] [4, 6, 11900, 13300]))
  (.seq (.reg [⟨some 35, .bslice 1 0 [.int .i64 0] [], none⟩,
    ⟨some 7, .mv (.t 35), none⟩] [4, 6, 7] [4, 6, 35, 73, 11900, 13300])
  (.seq (.seq (.reg [⟨some 36, .faddr 2 (.t 6), none⟩,
    ⟨some 37, .load false 1 (.t 36), none⟩,
    ⟨some 38, .len (.t 37), none⟩,
    ⟨some 39, .mv (.k (.int .i64 0)), none⟩] [4, 6, 7, 37, 38, 39] [4, 6, 35, 73, 11900, 13300])
  (.block 0 (.loop impl_JoinStore.l0)))
  (.seq (.reg [⟨some 82, .load true 4 (.t 6), none⟩,
    ⟨none, .store 4 (.t 4) (.t 82), none⟩] [4] [4, 11900, 13300])
  (.ret))))))
def impl_JoinStore.m : Fn := { np := 2, body := impl_JoinStore.b, res := [.cell 4 true 4] }
def impl_JoinStore.k (M : Nat → Option Body) : Prop := M 447 = some (.code impl_JoinStore.m) ∧ impl_JoinGone.k M ∧ slices_Contains_int_int.k M ∧ impl_JoinBoxes.k M
def impl_FitsStore.b : C := .seq (.reg [⟨some 2, .box (.t 0), none⟩,
    ⟨some 3, .box (.t 1), none⟩,
    ⟨some 4, .mv (.k (.bool false)), none⟩] [2, 3] [2, 3])
  (.seq (.reg [⟨some 5, .load true 4 (.t 2), none⟩,
    ⟨some 6, .call 150 [.t 5] [] [], none⟩,
    ⟨some 7, .mv (.t 6), none⟩,
    ⟨some 8, .load true 4 (.t 3), some (7, true)⟩,
    ⟨some 9, .call 150 [.t 8] [] [], some (7, true)⟩,
    ⟨some 10, .pick (.t 7) (.t 9) (.k (.bool false)), none⟩,
    ⟨some 11, .mv (.t 10), none⟩,
    ⟨some 12, .load true 4 (.t 2), some (11, true)⟩,
    ⟨some 13, .load true 4 (.t 3), some (11, true)⟩,
    ⟨some 14, .call 447 [.t 12, .t 13] [] [], some (11, true)⟩,
    ⟨some 15, .call 150 [.t 14] [] [], some (11, true)⟩,
    ⟨some 16, .pick (.t 11) (.t 15) (.k (.bool false)), none⟩,
    ⟨some 4, .mv (.t 16), none⟩] [4] [])
  (.ret))
def impl_FitsStore.m : Fn := { np := 2, body := impl_FitsStore.b, res := [.tmp 4] }
def impl_FitsStore.k (M : Nat → Option Body) : Prop := M 433 = some (.code impl_FitsStore.m) ∧ impl_StoreOk.k M ∧ impl_JoinStore.k M
def spec_l09At.l0 : C := .seq (.seq (.reg [⟨some 6, .mv (.t 5), none⟩,
    ⟨some 7, .mv (.t 0), none⟩,
    ⟨some 8, .len (.t 7), none⟩,
    ⟨some 9, .bin .lss (.t 6) (.t 8), none⟩] [0, 1, 5, 9] [])
  (.cond (.t 9) (.skip) (.exit 0)))
  (.seq (.block 1 (.seq (.reg [⟨some 12, .mv (.t 0), none⟩,
    ⟨some 13, .mv (.t 5), none⟩,
    ⟨some 14, .iaddr 7 (.t 12) (.t 13), none⟩,
    ⟨some 15, .faddr 0 (.t 14), none⟩,
    ⟨some 16, .load false 1 (.t 15), none⟩,
    ⟨some 17, .mv (.t 1), none⟩,
    ⟨some 18, .bin .eql (.t 16) (.t 17), none⟩] [0, 1, 5, 18] [])
  (.cond (.t 18) (.seq (.reg [⟨some 19, .mv (.t 5), none⟩,
    ⟨some 4, .mv (.t 19), none⟩] [4] [])
  (.ret)) (.skip))))
  (.reg [⟨some 10, .mv (.t 5), none⟩,
    ⟨some 11, .bin .add (.t 10) (.k (.int .i64 1)), none⟩,
    ⟨some 5, .mv (.t 11), none⟩] [0, 1, 5] []))
def spec_l09At.b : C := .seq (.reg [⟨some 4, .mv (.k (.int .i64 0)), none⟩] [0, 1] [])
  (.seq (.seq (.reg [⟨some 5, .mv (.k (.int .i64 0)), none⟩] [0, 1, 5] [])
  (.block 0 (.loop spec_l09At.l0)))
  (.seq (.reg [⟨some 4, .mv (.k (.int .i64 (-1))), none⟩] [4] [])
  (.ret)))
def spec_l09At.m : Fn := { np := 2, body := spec_l09At.b, res := [.tmp 4] }
def spec_l09At.k (M : Nat → Option Body) : Prop := M 474 = some (.code spec_l09At.m)
def spec_OtherName.b : C := .seq (.reg [⟨some 4, .mv (.k (.str ⟨#[]⟩)), none⟩] [0, 1] [])
  (.seq (.reg [⟨some 7, .mv (.t 0), none⟩,
    ⟨some 5, .mv (.t 7), none⟩] [1, 5] [])
  (.seq (.seq (.reg [⟨some 8, .mv (.t 5), none⟩,
    ⟨some 9, .slen (.t 8), none⟩,
    ⟨some 10, .bin .gtr (.t 9) (.k (.int .i64 6)), none⟩] [1, 5, 10] [])
  (.cond (.t 10) (.reg [⟨some 11, .mv (.t 5), none⟩,
    ⟨some 12, .sstr (.t 11) none (some (.k (.int .i64 6))), none⟩,
    ⟨some 5, .mv (.t 12), none⟩] [1, 5] []) (.skip)))
  (.seq (.reg [⟨some 6, .mv (.k (.str ⟨#[]⟩)), none⟩] [1, 5, 6] [])
  (.seq (.seq (.reg [⟨some 13, .mv (.t 1), none⟩,
    ⟨some 14, .bin .gtr (.t 13) (.k (.int .i64 0)), none⟩] [1, 5, 6, 14] [])
  (.cond (.t 14) (.reg [⟨some 15, .mv (.t 1), none⟩,
    ⟨some 16, .call 197 [.t 15] [] [], none⟩,
    ⟨some 6, .mv (.t 16), none⟩] [5, 6] []) (.skip)))
  (.seq (.seq (.reg [⟨some 17, .mv (.t 6), none⟩,
    ⟨some 18, .slen (.t 17), none⟩,
    ⟨some 19, .bin .gtr (.t 18) (.k (.int .i64 5)), none⟩] [5, 6, 19] [])
  (.cond (.t 19) (.reg [⟨some 20, .mv (.t 6), none⟩,
    ⟨some 21, .mv (.t 6), none⟩,
    ⟨some 22, .slen (.t 21), none⟩,
    ⟨some 23, .bin .sub (.t 22) (.k (.int .i64 5)), none⟩,
    ⟨some 24, .sstr (.t 20) (some (.t 23)) none, none⟩,
    ⟨some 6, .mv (.t 24), none⟩] [5, 6] []) (.skip)))
  (.seq (.reg [⟨some 25, .mv (.t 5), none⟩,
    ⟨some 26, .bin .add (.t 25) (.k (.str ⟨#[120]⟩)), none⟩,
    ⟨some 27, .mv (.t 6), none⟩,
    ⟨some 28, .bin .add (.t 26) (.t 27), none⟩,
    ⟨some 4, .mv (.t 28), none⟩] [4] [])
  (.ret)))))))
def spec_OtherName.m : Fn := { np := 2, body := spec_OtherName.b, res := [.tmp 4] }
def spec_OtherName.k (M : Nat → Option Body) : Prop := M 475 = some (.code spec_OtherName.m) ∧ spec_Decimal.k M
def spec_JoinBoxes.l0 : C := .seq (.seq (.reg [⟨some 17, .mv (.t 8), none⟩,
    ⟨some 18, .mv (.t 0), none⟩,
    ⟨some 19, .len (.t 18), none⟩,
    ⟨some 20, .bin .lss (.t 17) (.t 19), none⟩] [0, 1, 2, 7, 8, 20] [16])
  (.cond (.t 20) (.skip) (.exit 0)))
  (.seq (.block 1 (.seq (.reg [⟨some 23, .mv (.t 7), none⟩,
    ⟨some 24, .mv (.t 0), none⟩,
    ⟨some 25, .mv (.t 8), none⟩,
    ⟨some 26, .iaddr 7 (.t 24) (.t 25), none⟩,
    ⟨some 27, .faddr 0 (.t 26), none⟩,
    ⟨some 28, .load false 1 (.t 27), none⟩,
    ⟨some 29, .call 132 [.t 23, .t 28] [] [], none⟩,
    ⟨some 30, .not (.t 29), none⟩] [0, 1, 2, 7, 8, 30] [16])
  (.cond (.t 30) (.reg [⟨some 31, .mv (.t 7), none⟩,
    ⟨some 32, .mv (.t 0), none⟩,
    ⟨some 33, .mv (.t 8), none⟩,
    ⟨some 34, .iaddr 7 (.t 32) (.t 33), none⟩,
    ⟨some 35, .faddr 0 (.t 34), none⟩,
    ⟨some 36, .load false 1 (.t 35), none⟩,
    ⟨some 37, .call 133 [.t 31, .t 36] [] [(0, 16)], none⟩,
    ⟨some 7, .mv (.t 37), none⟩] [0, 1, 2, 7, 8] [16]) (.skip))))
  (.reg [⟨some 21, .mv (.t 8), none⟩,
    ⟨some 22, .bin .add (.t 21) (.k (.int .i64 1)), none⟩,
    ⟨some 8, .mv (.t 22), none⟩] [0, 1, 2, 7, 8] [16]))
def spec_JoinBoxes.l1 : C := .seq (.seq (.reg [⟨some 38, .mv (.t 9), none⟩,
    ⟨some 39, .mv (.t 1), none⟩,
    ⟨some 40, .len (.t 39), none⟩,
    ⟨some 41, .bin .lss (.t 38) (.t 40), none⟩] [0, 1, 2, 7, 9, 41] [16])
  (.cond (.t 41) (.skip) (.exit 2)))
  (.seq (.block 3 (.seq (.reg [⟨some 44, .mv (.t 7), none⟩,
    ⟨some 45, .mv (.t 1), none⟩,
    ⟨some 46, .mv (.t 9), none⟩,
    ⟨some 47, .iaddr 7 (.t 45) (.t 46), none⟩,
    ⟨some 48, .faddr 0 (.t 47), none⟩,
    ⟨some 49, .load false 1 (.t 48), none⟩,
    ⟨some 50, .call 132 [.t 44, .t 49] [] [], none⟩,
    ⟨some 51, .not (.t 50), none⟩] [0, 1, 2, 7, 9, 51] [16])
  (.cond (.t 51) (.reg [⟨some 52, .mv (.t 7), none⟩,
    ⟨some 53, .mv (.t 1), none⟩,
    ⟨some 54, .mv (.t 9), none⟩,
    ⟨some 55, .iaddr 7 (.t 53) (.t 54), none⟩,
    ⟨some 56, .faddr 0 (.t 55), none⟩,
    ⟨some 57, .load false 1 (.t 56), none⟩,
    ⟨some 58, .call 133 [.t 52, .t 57] [] [(0, 16)], none⟩,
    ⟨some 7, .mv (.t 58), none⟩] [0, 1, 2, 7, 9] [16]) (.skip))))
  (.reg [⟨some 42, .mv (.t 9), none⟩,
    ⟨some 43, .bin .add (.t 42) (.k (.int .i64 1)), none⟩,
    ⟨some 9, .mv (.t 43), none⟩] [0, 1, 2, 7, 9] [16]))
def spec_JoinBoxes.l2 : C := .seq (.seq (.reg [⟨some 60, .mv (.t 11), none⟩,
    ⟨some 61, .mv (.t 7), none⟩,
    ⟨some 62, .len (.t 61), none⟩,
    ⟨some 63, .bin .lss (.t 60) (.t 62), none⟩] [0, 1, 2, 7, 10, 11, 63] [16, 59, 91, 110, 121])
  (.cond (.t 63) (.skip) (.exit 4)))
  (.seq (.block 5 (.seq (.seq (.reg [⟨some 66, .mv (.t 2), none⟩,
    ⟨some 67, .mv (.t 7), none⟩,
    ⟨some 68, .mv (.t 11), none⟩,
    ⟨some 69, .iaddr 1 (.t 67) (.t 68), none⟩,
    ⟨some 70, .load false 1 (.t 69), none⟩,
    ⟨some 71, .call 132 [.t 66, .t 70] [] [], none⟩] [0, 1, 2, 7, 10, 11, 71] [16, 59, 91, 110, 121])
  (.cond (.t 71) (.exit 5) (.skip)))
  (.seq (.reg [⟨some 72, .mv (.t 0), none⟩,
    ⟨some 73, .mv (.t 7), none⟩,
    ⟨some 74, .mv (.t 11), none⟩,
    ⟨some 75, .iaddr 1 (.t 73) (.t 74), none⟩,
    ⟨some 76, .load false 1 (.t 75), none⟩,
    ⟨some 77, .call 474 [.t 72, .t 76] [] [], none⟩,
    ⟨some 12, .mv (.t 77), none⟩] [0, 1, 2, 7, 10, 11, 12] [16, 59, 91, 110, 121])
  (.seq (.reg [⟨some 78, .mv (.t 1), none⟩,
    ⟨some 79, .mv (.t 7), none⟩,
    ⟨some 80, .mv (.t 11), none⟩,
    ⟨some 81, .iaddr 1 (.t 79) (.t 80), none⟩,
    ⟨some 82, .load false 1 (.t 81), none⟩,
    ⟨some 83, .call 474 [.t 78, .t 82] [] [], none⟩,
    ⟨some 13, .mv (.t 83), none⟩] [0, 1, 2, 7, 10, 11, 12, 13] [16, 59, 91, 110, 121])
  (.block 6 (.seq (.reg [⟨some 93, .mv (.t 12), none⟩,
    ⟨some 94, .bin .geq (.t 93) (.k (.int .i64 0)), none⟩,
    ⟨some 95, .mv (.t 94), none⟩,
    ⟨some 96, .mv (.t 13), some (95, true)⟩,
    ⟨some 97, .bin .geq (.t 96) (.k (.int .i64 0)), some (95, true)⟩,
    ⟨some 98, .pick (.t 95) (.t 97) (.k (.bool false)), none⟩,
    ⟨some 92, .mv (.t 98), none⟩] [0, 1, 2, 7, 10, 11, 12, 13, 92] [16, 59, 91, 110, 121])
  (.cond (.t 92) (.regd [⟨some 99, .mv (.t 10), none⟩,
    ⟨some 100, .mv (.t 0), none⟩,
    ⟨some 101, .mv (.t 12), none⟩,
    ⟨some 102, .iaddr 7 (.t 100) (.t 101), none⟩,
    ⟨some 103, .load true 7 (.t 102), none⟩,
    ⟨some 104, .mv (.t 1), none⟩,
    ⟨some 105, .mv (.t 13), none⟩,
    ⟨some 106, .iaddr 7 (.t 104) (.t 105), none⟩,
    ⟨some 107, .load true 7 (.t 106), none⟩,
    ⟨some 108, .call 405 [.t 103, .t 107] [] [], none⟩,
    ⟨some 109, .bslice 7 1 [.int .i64 0, .str ⟨#[]⟩, .int .i64 0, .int .i64 0, .int .i64 0, .nils 4, .nils 1] [(0, .t 108)], none⟩,
    ⟨some 110, .app 7 96 (.t 99) (.t 109), none⟩,
    ⟨some 10, .mv (.t 110), none⟩] [[], [], [], [1, 2], [1, 2, 3], [], [], [5, 6], [5, 6, 7], [1, 2, 3, 4, 5, 6, 7, 8], [1, 2, 3, 4, 5, 6, 7, 8, 9], List.range 11, List.range 12] [0, 1, 2, 7, 10, 11] [16, 59, 91, 110, 121]) (.seq (.reg [⟨some 112, .mv (.t 12), none⟩,
    ⟨some 113, .bin .geq (.t 112) (.k (.int .i64 0)), none⟩,
    ⟨some 111, .mv (.t 113), none⟩] [0, 1, 2, 7, 10, 11, 12, 13, 111] [16, 59, 91, 110, 121])
  (.cond (.t 111) (.reg [⟨some 114, .mv (.t 10), none⟩,
    ⟨some 115, .mv (.t 0), none⟩,
    ⟨some 116, .mv (.t 12), none⟩,
    ⟨some 117, .iaddr 7 (.t 115) (.t 116), none⟩,
    ⟨some 118, .load true 7 (.t 117), none⟩,
    ⟨some 119, .call 180 [.t 118] [] [], none⟩,
    ⟨some 120, .bslice 7 1 [.int .i64 0, .str ⟨#[]⟩, .int .i64 0, .int .i64 0, .int .i64 0, .nils 4, .nils 1] [(0, .t 119)], none⟩,
    ⟨some 121, .app 7 96 (.t 114) (.t 120), none⟩,
    ⟨some 10, .mv (.t 121), none⟩] [0, 1, 2, 7, 10, 11] [16, 59, 91, 110, 121]) (.reg [⟨some 84, .mv (.t 10), none⟩,
    ⟨some 85, .mv (.t 1), none⟩,
    ⟨some 86, .mv (.t 13), none⟩,
    ⟨some 87, .iaddr 7 (.t 85) (.t 86), none⟩,
    ⟨some 88, .load true 7 (.t 87), none⟩,
    ⟨some 89, .call 180 [.t 88] [] [], none⟩,
    ⟨some 90, .bslice 7 1 [.int .i64 0, .str ⟨#[]⟩, .int .i64 0, .int .i64 0, .int .i64 0, .nils 4, .nils 1] [(0, .t 89)], none⟩,
    ⟨some 91, .app 7 96 (.t 84) (.t 90), none⟩,
    ⟨some 10, .mv (.t 91), none⟩] [0, 1, 2, 7, 10, 11] [16, 59, 91, 110, 121]))))))))))
  (.reg [⟨some 64, .mv (.t 11), none⟩,
    ⟨some 65, .bin .add (.t 64) (.k (.int .i64 1)), none⟩,
    ⟨some 11, .mv (.t 65), none⟩] [0, 1, 2, 7, 10, 11] [16, 59, 91, 110, 121]))
def spec_JoinBoxes.l4 : C := .seq (.seq (.reg [⟨some 128, .mv (.t 15), none⟩,
    ⟨some 129, .mv (.t 14), none⟩,
    ⟨some 130, .bin .lss (.t 128) (.t 129), none⟩] [10, 14, 15, 130] [59, 91, 110, 121])
  (.cond (.t 130) (.skip) (.exit 9)))
  (.seq (.block 10 (.seq (.regd [⟨some 133, .mv (.t 10), none⟩,
    ⟨some 134, .mv (.t 15), none⟩,
    ⟨some 135, .iaddr 7 (.t 133) (.t 134), none⟩,
    ⟨some 136, .faddr 1 (.t 135), none⟩,
    ⟨some 137, .load false 1 (.t 136), none⟩,
    ⟨some 138, .mv (.t 10), none⟩,
    ⟨some 139, .mv (.t 14), none⟩,
    ⟨some 140, .iaddr 7 (.t 138) (.t 139), none⟩,
    ⟨some 141, .faddr 1 (.t 140), none⟩,
    ⟨some 142, .load false 1 (.t 141), none⟩,
    ⟨some 143, .bin .eql (.t 137) (.t 142), none⟩] [[], [], [0, 1], [0, 1, 2], List.range 4, [], [], [5, 6], [5, 6, 7], [5, 6, 7, 8], List.range 10] [10, 14, 15, 143] [59, 91, 110, 121])
  (.cond (.t 143) (.seq (.regd [⟨some 144, .mv (.t 10), none⟩,
    ⟨some 145, .mv (.t 14), none⟩,
    ⟨some 146, .mv (.t 10), none⟩,
    ⟨some 147, .mv (.t 14), none⟩,
    ⟨some 148, .iaddr 7 (.t 146) (.t 147), none⟩,
    ⟨some 149, .faddr 1 (.t 148), none⟩,
    ⟨some 150, .load false 1 (.t 149), none⟩,
    ⟨some 151, .mv (.t 10), none⟩,
    ⟨some 152, .mv (.t 14), none⟩,
    ⟨some 153, .iaddr 7 (.t 151) (.t 152), none⟩,
    ⟨some 154, .faddr 0 (.t 153), none⟩,
    ⟨some 155, .load false 1 (.t 154), none⟩,
    ⟨some 156, .call 475 [.t 150, .t 155] [] [], none⟩,
    ⟨some 157, .iaddr 7 (.t 144) (.t 145), none⟩,
    ⟨some 158, .faddr 1 (.t 157), none⟩,
    ⟨none, .store 1 (.t 158) (.t 156), none⟩] [[], [], [], [], [2, 3], [2, 3, 4], [2, 3, 4, 5], [], [], [7, 8], [7, 8, 9], [7, 8, 9, 10], [2, 3, 4, 5, 6, 7, 8, 9, 10, 11], List.range 13, List.range 14, List.range 15] [10, 14] [59, 91, 110, 121])
  (.exit 9)) (.skip))))
  (.reg [⟨some 131, .mv (.t 15), none⟩,
    ⟨some 132, .bin .add (.t 131) (.k (.int .i64 1)), none⟩,
    ⟨some 15, .mv (.t 132), none⟩] [10, 14, 15] [59, 91, 110, 121]))
def spec_JoinBoxes.l3 : C := .seq (.seq (.reg [⟨some 122, .mv (.t 14), none⟩,
    ⟨some 123, .mv (.t 10), none⟩,
    ⟨some 124, .len (.t 123), none⟩,
    ⟨some 125, .bin .lss (.t 122) (.t 124), none⟩] [10, 14, 125] [59, 91, 110, 121])
  (.cond (.t 125) (.skip) (.exit 7)))
  (.seq (.block 8 (.seq (.reg [⟨some 15, .mv (.k (.int .i64 0)), none⟩] [10, 14, 15] [59, 91, 110, 121])
  (.block 9 (.loop spec_JoinBoxes.l4))))
  (.reg [⟨some 126, .mv (.t 14), none⟩,
    ⟨some 127, .bin .add (.t 126) (.k (.int .i64 1)), none⟩,
    ⟨some 14, .mv (.t 127), none⟩] [10, 14] [59, 91, 110, 121]))
def spec_JoinBoxes.b : C := .seq (.reg [⟨some 6, .nil 7, none⟩] [0, 1, 2] [])
  (.seq (.reg [⟨some 16, .bslice 1 0 [.int .i64 0] [], none⟩,
    ⟨some 7, .mv (.t 16), none⟩] [0, 1, 2, 7] [16])
  (.seq (.seq (.reg [⟨some 8, .mv (.k (.int .i64 0)), none⟩] [0, 1, 2, 7, 8] [16])
  (.block 0 (.loop spec_JoinBoxes.l0)))
  (.seq (.seq (.reg [⟨some 9, .mv (.k (.int .i64 0)), none⟩] [0, 1, 2, 7, 9] [16])
  (.block 2 (.loop spec_JoinBoxes.l1)))
  (.seq (.reg [⟨some 59, .bslice 7 0 [.int .i64 0, .str ⟨#[]⟩, .int .i64 0, .int .i64 0, .int .i64 0, .nils 4, .nils 1] [], none⟩,
    ⟨some 10, .mv (.t 59), none⟩] [0, 1, 2, 7, 10] [16, 59, 91, 110, 121])
  (.seq (.seq (.reg [⟨some 11, .mv (.k (.int .i64 0)), none⟩] [0, 1, 2, 7, 10, 11] [16, 59, 91, 110, 121])
  (.block 4 (.loop spec_JoinBoxes.l2)))
  (.seq (.seq (.reg [⟨some 14, .mv (.k (.int .i64 0)), none⟩] [10, 14] [59, 91, 110, 121])
  (.block 7 (.loop spec_JoinBoxes.l3)))
  (.seq (.reg [⟨some 159, .mv (.t 10), none⟩,
    ⟨some 6, .mv (.t 159), none⟩] [6] [6, 59, 91, 110, 121])
  (.ret))))))))
def spec_JoinBoxes.m : Fn := { np := 3, body := spec_JoinBoxes.b, res := [.tmp 6] }
def spec_JoinBoxes.k (M : Nat → Option Body) : Prop := M 466 = some (.code spec_JoinBoxes.m) ∧ spec_l06In.k M ∧ spec_l06Put.k M ∧ spec_l06Copy.k M ∧ spec_JoinBox.k M ∧ spec_l09At.k M ∧ spec_OtherName.k M
def spec_JoinStore.l1 : C := .seq (.seq (.reg [⟨some 46, .mv (.t 9), none⟩,
    ⟨some 47, .faddr 2 (.t 5), none⟩,
    ⟨some 48, .load false 1 (.t 47), none⟩,
    ⟨some 49, .mv (.t 7), none⟩,
    ⟨some 50, .iaddr 7 (.t 48) (.t 49), none⟩,
    ⟨some 51, .faddr 5 (.t 50), none⟩,
    ⟨some 52, .load false 1 (.t 51), none⟩,
    ⟨some 53, .len (.t 52), none⟩,
    ⟨some 54, .bin .lss (.t 46) (.t 53), none⟩] [4, 5, 6, 7, 8, 9, 54] [4, 5, 37, 45, 74, 79, 11900, 13500])
  (.cond (.t 54) (.skip) (.exit 2)))
  (.seq (.block 3 (.seq (.reg [⟨some 57, .faddr 2 (.t 5), none⟩,
    ⟨some 58, .load false 1 (.t 57), none⟩,
    ⟨some 59, .mv (.t 7), none⟩,
    ⟨some 60, .iaddr 7 (.t 58) (.t 59), none⟩,
    ⟨some 61, .faddr 5 (.t 60), none⟩,
    ⟨some 62, .load false 1 (.t 61), none⟩,
    ⟨some 63, .mv (.t 9), none⟩,
    ⟨some 64, .iaddr 4 (.t 62) (.t 63), none⟩,
    ⟨some 65, .load true 4 (.t 64), none⟩,
    ⟨some 10, .alloc [.int .i64 0, .int .i64 0, .nils 3, .str ⟨#[]⟩], none⟩,
    ⟨none, .store 4 (.t 10) (.t 65), none⟩] [4, 5, 6, 7, 8, 9, 10] [4, 5, 10, 37, 45, 74, 79, 11900, 13500])
  (.seq (.reg [⟨some 66, .mv (.t 6), none⟩,
    ⟨some 67, .faddr 0 (.t 10), none⟩,
    ⟨some 68, .load false 1 (.t 67), none⟩,
    ⟨some 69, .call 132 [.t 66, .t 68] [] [], none⟩,
    ⟨some 70, .not (.t 69), none⟩] [4, 5, 6, 7, 8, 9, 10, 70] [4, 5, 10, 37, 45, 74, 79, 11900, 13500])
  (.cond (.t 70) (.seq (.reg [⟨some 71, .mv (.t 8), none⟩,
    ⟨some 72, .load true 4 (.t 10), none⟩,
    ⟨some 73, .bslice 4 1 [.int .i64 0, .int .i64 0, .nils 3, .str ⟨#[]⟩] [(0, .t 72)], none⟩,
    ⟨some 74, .app 4 56 (.t 71) (.t 73), none⟩,
    ⟨some 8, .mv (.t 74), none⟩] [4, 5, 6, 7, 8, 9, 10] [4, 5, 10, 37, 45, 74, 79, 11900, 13500])
  (.reg [⟨some 75, .mv (.t 6), none⟩,
    ⟨some 76, .faddr 0 (.t 10), none⟩,
    ⟨some 77, .load false 1 (.t 76), none⟩,
    ⟨some 78, .bslice 1 1 [.int .i64 0] [(0, .t 77)], none⟩,
    ⟨some 79, .app 1 8 (.t 75) (.t 78), none⟩,
    ⟨some 6, .mv (.t 79), none⟩] [4, 5, 6, 7, 8, 9] [4, 5, 37, 45, 74, 79, 11900, 13500])) (.skip)))))
  (.reg [⟨some 55, .mv (.t 9), none⟩,
    ⟨some 56, .bin .add (.t 55) (.k (.int .i64 1)), none⟩,
    ⟨some 9, .mv (.t 56), none⟩] [4, 5, 6, 7, 8, 9] [4, 5, 37, 45, 74, 79, 11900, 13500]))
def spec_JoinStore.l0 : C := .seq (.seq (.reg [⟨some 38, .mv (.t 7), none⟩,
    ⟨some 39, .faddr 2 (.t 5), none⟩,
    ⟨some 40, .load false 1 (.t 39), none⟩,
    ⟨some 41, .len (.t 40), none⟩,
    ⟨some 42, .bin .lss (.t 38) (.t 41), none⟩] [4, 5, 6, 7, 42] [4, 5, 37, 79, 11900, 13500])
  (.cond (.t 42) (.skip) (.exit 0)))
  (.seq (.block 1 (.seq (.reg [⟨some 45, .bslice 4 0 [.int .i64 0, .int .i64 0, .nils 3, .str ⟨#[]⟩] [], none⟩,
    ⟨some 8, .mv (.t 45), none⟩] [4, 5, 6, 7, 8] [4, 5, 37, 45, 74, 79, 11900, 13500])
  (.seq (.seq (.reg [⟨some 9, .mv (.k (.int .i64 0)), none⟩] [4, 5, 6, 7, 8, 9] [4, 5, 37, 45, 74, 79, 11900, 13500])
  (.block 2 (.loop spec_JoinStore.l1)))
  (.shut [45, 74] (.reg [⟨some 80, .faddr 2 (.t 5), none⟩,
    ⟨some 81, .load false 1 (.t 80), none⟩,
    ⟨some 82, .mv (.t 7), none⟩,
    ⟨some 83, .mv (.t 8), none⟩,
    ⟨some 84, .iaddr 7 (.t 81) (.t 82), none⟩,
    ⟨some 85, .faddr 5 (.t 84), none⟩,
    ⟨none, .store 1 (.t 85) (.t 83), none⟩] [4, 5, 6, 7] [4, 5, 37, 79, 11900, 13500])))))
  (.reg [⟨some 43, .mv (.t 7), none⟩,
    ⟨some 44, .bin .add (.t 43) (.k (.int .i64 1)), none⟩,
    ⟨some 7, .mv (.t 44), none⟩] [4, 5, 6, 7] [4, 5, 37, 79, 11900, 13500]))
def spec_JoinStore.b : C := .seq (.reg [⟨some 2, .box (.t 0), none⟩,
    ⟨some 3, .box (.t 1), none⟩,
    ⟨some 4, .alloc [.int .i64 0, .int .i64 0, .nils 7, .nils 1], none⟩] [2, 3, 4] [2, 3, 4, 11900, 13500])
  (.seq (.regd [⟨some 11, .faddr 0 (.t 2), none⟩,
    ⟨some 12, .load false 1 (.t 11), none⟩,
    ⟨some 13, .faddr 1 (.t 2), none⟩,
    ⟨some 14, .load false 1 (.t 13), none⟩,
    ⟨some 15, .faddr 3 (.t 2), none⟩,
    ⟨some 16, .load false 1 (.t 15), none⟩,
    ⟨some 17, .faddr 3 (.t 3), none⟩,
    ⟨some 18, .load false 1 (.t 17), none⟩,
    ⟨some 19, .call 43 [.t 16, .t 18] [] [(0, 11900)], none⟩,
    ⟨some 20, .build [.int .i64 0, .int .i64 0, .nils 7, .nils 1] [(0, 1, .t 12), (1, 1, .t 14), (3, 1, .t 19)], none⟩,
    ⟨some 5, .alloc [.int .i64 0, .int .i64 0, .nils 7, .nils 1], none⟩,
    ⟨none, .store 4 (.t 5) (.t 20), none⟩] [[], [0], [], [2], [], [4], [], [6], [4, 5, 6, 7], List.range 9, [], List.range 11] [2, 3, 4, 5] [2, 3, 4, 5, 11900, 13500])
  (.seq (.seq (.reg [⟨some 21, .faddr 1 (.t 3), none⟩,
    ⟨some 22, .load false 1 (.t 21), none⟩,
    ⟨some 23, .faddr 1 (.t 2), none⟩,
    ⟨some 24, .load false 1 (.t 23), none⟩,
    ⟨some 25, .bin .gtr (.t 22) (.t 24), none⟩] [2, 3, 4, 5, 25] [2, 3, 4, 5, 11900, 13500])
  (.cond (.t 25) (.reg [⟨some 26, .faddr 1 (.t 3), none⟩,
    ⟨some 27, .load false 1 (.t 26), none⟩,
    ⟨some 28, .faddr 1 (.t 5), none⟩,
    ⟨none, .store 1 (.t 28) (.t 27), none⟩] [2, 3, 4, 5] [2, 3, 4, 5, 11900, 13500]) (.skip)))
  (.seq (.shut [11900] (.reg [⟨some 29, .faddr 2 (.t 2), none⟩,
    ⟨some 30, .load false 1 (.t 29), none⟩,
    ⟨some 31, .faddr 2 (.t 3), none⟩,
    ⟨some 32, .load false 1 (.t 31), none⟩,
    ⟨some 33, .faddr 3 (.t 5), none⟩,
    ⟨some 34, .load false 1 (.t 33), none⟩,
    ⟨some 35, .call 466 [.t 30, .t 32, .t 34] [] [(0, 13500)], none⟩,
    ⟨some 36, .faddr 2 (.t 5), none⟩,
    ⟨none, .store 1 (.t 36) (.t 35), none⟩] [4, 5] [4, 5, 11900, 13500]))
  (.seq (.reg [⟨some 37, .bslice 1 0 [.int .i64 0] [], none⟩,
    ⟨some 6, .mv (.t 37), none⟩] [4, 5, 6] [4, 5, 37, 79, 11900, 13500])
  (.seq (.seq (.reg [⟨some 7, .mv (.k (.int .i64 0)), none⟩] [4, 5, 6, 7] [4, 5, 37, 79, 11900, 13500])
  (.block 0 (.loop spec_JoinStore.l0)))
  (.seq (.reg [⟨some 86, .load true 4 (.t 5), none⟩,
    ⟨none, .store 4 (.t 4) (.t 86), none⟩] [4] [4, 11900, 13500])
  (.ret)))))))
def spec_JoinStore.m : Fn := { np := 2, body := spec_JoinStore.b, res := [.cell 4 true 4] }
def spec_JoinStore.k (M : Nat → Option Body) : Prop := M 446 = some (.code spec_JoinStore.m) ∧ spec_JoinGone.k M ∧ spec_l06In.k M ∧ spec_JoinBoxes.k M
def spec_FitsStore.b : C := .seq (.reg [⟨some 2, .box (.t 0), none⟩,
    ⟨some 3, .box (.t 1), none⟩,
    ⟨some 4, .mv (.k (.bool false)), none⟩] [2, 3] [2, 3])
  (.seq (.reg [⟨some 5, .load true 4 (.t 2), none⟩,
    ⟨some 6, .call 149 [.t 5] [] [], none⟩,
    ⟨some 7, .mv (.t 6), none⟩,
    ⟨some 8, .load true 4 (.t 3), some (7, true)⟩,
    ⟨some 9, .call 149 [.t 8] [] [], some (7, true)⟩,
    ⟨some 10, .pick (.t 7) (.t 9) (.k (.bool false)), none⟩,
    ⟨some 11, .mv (.t 10), none⟩,
    ⟨some 12, .load true 4 (.t 2), some (11, true)⟩,
    ⟨some 13, .load true 4 (.t 3), some (11, true)⟩,
    ⟨some 14, .call 446 [.t 12, .t 13] [] [], some (11, true)⟩,
    ⟨some 15, .call 149 [.t 14] [] [], some (11, true)⟩,
    ⟨some 16, .pick (.t 11) (.t 15) (.k (.bool false)), none⟩,
    ⟨some 4, .mv (.t 16), none⟩] [4] [])
  (.ret))
def spec_FitsStore.m : Fn := { np := 2, body := spec_FitsStore.b, res := [.tmp 4] }
def spec_FitsStore.k (M : Nat → Option Body) : Prop := M 432 = some (.code spec_FitsStore.m) ∧ spec_StoreOk.k M ∧ spec_JoinStore.k M
def laws_FnExactFitsStore.b : C := .seq (.reg [⟨some 2, .box (.t 0), none⟩,
    ⟨some 3, .box (.t 1), none⟩,
    ⟨some 4, .mv (.k (.bool false)), none⟩] [2, 3] [2, 3])
  (.seq (.reg [⟨some 5, .mv (.k (.int .i64 1048576)), none⟩] [2, 3, 5] [2, 3])
  (.seq (.reg [⟨some 10, .load true 4 (.t 2), none⟩,
    ⟨some 11, .mv (.t 5), none⟩,
    ⟨some 12, .call 29 [.t 10, .t 11] [] [], none⟩,
    ⟨some 5, .mv (.t 12), none⟩] [2, 3, 5] [2, 3])
  (.seq (.seq (.reg [⟨some 13, .mv (.t 5), none⟩,
    ⟨some 14, .bin .lss (.t 13) (.k (.int .i64 0)), none⟩] [2, 3, 5, 14] [2, 3])
  (.cond (.t 14) (.seq (.reg [⟨some 4, .mv (.k (.bool true)), none⟩] [4] [])
  (.ret)) (.skip)))
  (.seq (.reg [⟨some 15, .load true 4 (.t 3), none⟩,
    ⟨some 16, .mv (.t 5), none⟩,
    ⟨some 17, .call 29 [.t 15, .t 16] [] [], none⟩,
    ⟨some 5, .mv (.t 17), none⟩] [2, 3, 5] [2, 3])
  (.seq (.seq (.reg [⟨some 18, .mv (.t 5), none⟩,
    ⟨some 19, .bin .lss (.t 18) (.k (.int .i64 0)), none⟩] [2, 3, 19] [2, 3])
  (.cond (.t 19) (.seq (.reg [⟨some 4, .mv (.k (.bool true)), none⟩] [4] [])
  (.ret)) (.skip)))
  (.seq (.regd [⟨some 20, .load true 4 (.t 2), none⟩,
    ⟨some 21, .call 30 [.t 20] [] [], none⟩,
    ⟨some 22, .load true 4 (.t 3), none⟩,
    ⟨some 23, .call 30 [.t 22] [] [], none⟩,
    ⟨some 24, .call 432 [.t 21, .t 23] [] [], none⟩,
    ⟨some 6, .mv (.t 24), none⟩] [[], [0], [], [0, 1, 2], List.range 4, List.range 5] [2, 3, 6] [2, 3])
  (.seq (.reg [⟨some 25, .load true 4 (.t 2), none⟩,
    ⟨some 26, .call 30 [.t 25] [] [], none⟩,
    ⟨some 7, .alloc [.int .i64 0, .int .i64 0, .nils 7, .nils 1], none⟩,
    ⟨none, .store 4 (.t 7) (.t 26), none⟩] [2, 3, 6, 7] [2, 3, 7])
  (.seq (.reg [⟨some 27, .load true 4 (.t 3), none⟩,
    ⟨some 28, .call 30 [.t 27] [] [], none⟩,
    ⟨some 8, .alloc [.int .i64 0, .int .i64 0, .nils 7, .nils 1], none⟩,
    ⟨none, .store 4 (.t 8) (.t 28), none⟩] [2, 3, 6, 7, 8] [2, 3, 7, 8])
  (.seq (.reg [⟨some 29, .load true 4 (.t 7), none⟩,
    ⟨some 30, .load true 4 (.t 8), none⟩,
    ⟨some 31, .call 433 [.t 29, .t 30] [] [], none⟩,
    ⟨some 9, .mv (.t 31), none⟩] [2, 3, 6, 7, 8, 9] [2, 3, 7, 8])
  (.seq (.seq (.reg [⟨some 32, .mv (.t 9), none⟩,
    ⟨some 33, .mv (.t 6), none⟩,
    ⟨some 34, .beq true (.t 32) (.t 33), none⟩] [2, 3, 7, 8, 34] [2, 3, 7, 8])
  (.cond (.t 34) (.seq (.reg [⟨some 4, .mv (.k (.bool false)), none⟩] [4] [])
  (.ret)) (.skip)))
  (.seq (.seq (.regd [⟨some 35, .load true 4 (.t 7), none⟩,
    ⟨some 36, .load true 4 (.t 2), none⟩,
    ⟨some 37, .call 30 [.t 36] [] [], none⟩,
    ⟨some 38, .call 33 [.t 35, .t 37] [] [], none⟩,
    ⟨some 39, .not (.t 38), none⟩] [[], [], [1], [0, 1, 2], List.range 4] [3, 8, 39] [3, 8])
  (.cond (.t 39) (.seq (.reg [⟨some 4, .mv (.k (.bool false)), none⟩] [4] [])
  (.ret)) (.skip)))
  (.seq (.seq (.regd [⟨some 40, .load true 4 (.t 8), none⟩,
    ⟨some 41, .load true 4 (.t 3), none⟩,
    ⟨some 42, .call 30 [.t 41] [] [], none⟩,
    ⟨some 43, .call 33 [.t 40, .t 42] [] [], none⟩,
    ⟨some 44, .not (.t 43), none⟩] [[], [], [1], [0, 1, 2], List.range 4] [44] [])
  (.cond (.t 44) (.seq (.reg [⟨some 4, .mv (.k (.bool false)), none⟩] [4] [])
  (.ret)) (.skip)))
  (.seq (.reg [⟨some 4, .mv (.k (.bool true)), none⟩] [4] [])
  (.ret))))))))))))))
def laws_FnExactFitsStore.m : Fn := { np := 2, body := laws_FnExactFitsStore.b, res := [.tmp 4] }
def laws_FnExactFitsStore.k (M : Nat → Option Body) : Prop := M 398 = some (.code laws_FnExactFitsStore.m) ∧ laws_szStore.k M ∧ laws_toStore.k M ∧ laws_eqStore.k M ∧ spec_FitsStore.k M ∧ impl_FitsStore.k M
end Mx

namespace Mx
open Go
variable {M : Nat → Option Body}
theorem impl_JoinBoxes_3.says (h : impl_JoinBoxes_3.k M) (x y : Box) : run M 481 [.a (encBox x), .a (encBox y)] [] = some (.c (I (cmpI x.gid y.gid)), []) := by
  have h1 := impl_compare.says h.2 x.gid y.gid
  refine run_code (b := impl_JoinBoxes_3.m) h.1 ⟨0, ?_⟩
  simp (maxSteps := 1000000) [exB, impl_JoinBoxes_3.m, impl_JoinBoxes_3.b, List.range_succ, bs_get, setAt, h1, encBox]
structure BsS where
  j : Nat
  D : List Box
  n : Nat
def bsS (f N i : Nat) (Z : List (List T)) (s : BsS) : St := { t := [(0, .c (.row 0 0 0 N)), (1, .c (I 0)), (2, .c (I N)), (3, .c (.fn f [])), (8, .c (I i)), (9, .c (I s.j))], o := [(0, ⟨0, 7, true, false, s.D.map encBox ++ Z⟩)], n := s.n }
def bsE (f N i : Nat) (Z : List (List T)) (s : BsS) : St := { t := [(0, .c (.row 0 0 0 N)), (1, .c (I 0)), (2, .c (I N)), (3, .c (.fn f [])), (8, .c (I i)), (9, .c (I s.j)), (34, .c (.bool false))], o := [(0, ⟨0, 7, true, false, s.D.map encBox ++ Z⟩)], n := s.n }
structure BsI (k : Box → Int) (N : Nat) (R : List Box) (s : BsS) : Prop where
  len : s.D.length = N
  lt : s.j < N
  e : ∃ P x Q, P.length = s.j ∧ s.D = P ++ x :: Q ∧ SortedBy k P ∧ insBy k P x ++ Q = R
set_option maxHeartbeats 2000000 in
theorem bs_swap {f : Nat} {g t w u g' t' w' u' : Int} {nm nm' : List UInt8} {fl fl' tx tx' : List (List T)} {c : Int}
    (hcmp : run M f [.a [I g, S nm, I t, I w, I u, .sl false 4 fl, .sl false 1 tx], .a [I g', S nm', I t', I w', I u', .sl false 4 fl', .sl false 1 tx']] [] = some (.c (I c), [])) (hc : c < 0) (m N i j p : Nat) (hN : N ≤ 1048576) (rr : List (List T)) (e1 : IntKind.i64.wrap ((j : Int) - 1) = (p : Int)) (hj : j < N) (hp : p < N) (h0 : 0 < j) (e2 : j < rr.length) (e3 : p < rr.length) (hne : ¬ j = p) (hne' : ¬ p = j)
    (a1 : ∀ hh, rr[p]'hh = [I g', S nm', I t', I w', I u', .sl false 4 fl', .sl false 1 tx']) (a2 : ∀ hh, rr[j]'hh = [I g, S nm, I t, I w, I u, .sl false 4 fl, .sl false 1 tx]) (n : Nat) :
    ∃ n', exC (run M) m slices_insertionSortCmpFunc_impl_Box.l1 { t := [(0, .c (.row 0 0 0 N)), (1, .c (I 0)), (2, .c (I N)), (3, .c (.fn f [])), (8, .c (I i)), (9, .c (I j))], o := [(0, ⟨0, 7, true, false, rr⟩)], n := n } =
      some (.normal, { t := [(0, .c (.row 0 0 0 N)), (1, .c (I 0)), (2, .c (I N)), (3, .c (.fn f [])), (8, .c (I i)), (9, .c (I p))], o := [(0, ⟨0, 7, true, false, (rr.set j [I g', S nm', I t', I w', I u', .sl false 4 fl', .sl false 1 tx']).set p [I g, S nm, I t, I w, I u, .sl false 4 fl, .sl false 1 tx]⟩)], n := n' }) := by
  simp (maxSteps := 1000000) [slices_insertionSortCmpFunc_impl_Box.l1, List.range_succ, bs_get, setAt, hcmp, hc, a1, a2, e1, e2, e3, hj, hp, h0, hne, hne']
set_option maxHeartbeats 2000000 in
theorem bs_stop {f : Nat} {g t w u g' t' w' u' : Int} {nm nm' : List UInt8} {fl fl' tx tx' : List (List T)} {c : Int}
    (hcmp : run M f [.a [I g, S nm, I t, I w, I u, .sl false 4 fl, .sl false 1 tx], .a [I g', S nm', I t', I w', I u', .sl false 4 fl', .sl false 1 tx']] [] = some (.c (I c), [])) (hc : ¬ c < 0) (m N i j p : Nat) (hN : N ≤ 1048576) (rr : List (List T)) (e1 : IntKind.i64.wrap ((j : Int) - 1) = (p : Int)) (hj : j < N) (hp : p < N) (h0 : 0 < j) (e2 : j < rr.length) (e3 : p < rr.length) (hne : ¬ j = p) (hne' : ¬ p = j)
    (a1 : ∀ hh, rr[p]'hh = [I g', S nm', I t', I w', I u', .sl false 4 fl', .sl false 1 tx']) (a2 : ∀ hh, rr[j]'hh = [I g, S nm, I t, I w, I u, .sl false 4 fl, .sl false 1 tx]) (n : Nat) :
    ∃ n', exC (run M) m slices_insertionSortCmpFunc_impl_Box.l1 { t := [(0, .c (.row 0 0 0 N)), (1, .c (I 0)), (2, .c (I N)), (3, .c (.fn f [])), (8, .c (I i)), (9, .c (I j))], o := [(0, ⟨0, 7, true, false, rr⟩)], n := n } =
      some (.exit 2, { t := [(0, .c (.row 0 0 0 N)), (1, .c (I 0)), (2, .c (I N)), (3, .c (.fn f [])), (8, .c (I i)), (9, .c (I j)), (34, .c (.bool false))], o := [(0, ⟨0, 7, true, false, rr⟩)], n := n' }) := by
  simp (maxSteps := 1000000) [slices_insertionSortCmpFunc_impl_Box.l1, List.range_succ, bs_get, setAt, hcmp, hc, a1, a2, e1, e2, e3, hj, hp, h0, hne, hne']
theorem bs_nil {f : Nat} (m N i : Nat) (rr : List (List T)) (n : Nat) :
    ∃ n', exC (run M) m slices_insertionSortCmpFunc_impl_Box.l1 { t := [(0, .c (.row 0 0 0 N)), (1, .c (I 0)), (2, .c (I N)), (3, .c (.fn f [])), (8, .c (I i)), (9, .c (I 0))], o := [(0, ⟨0, 7, true, false, rr⟩)], n := n } =
      some (.exit 2, { t := [(0, .c (.row 0 0 0 N)), (1, .c (I 0)), (2, .c (I N)), (3, .c (.fn f [])), (8, .c (I i)), (9, .c (I 0)), (34, .c (.bool false))], o := [(0, ⟨0, 7, true, false, rr⟩)], n := n' }) := by
  simp (maxSteps := 1000000) [slices_insertionSortCmpFunc_impl_Box.l1, List.range_succ, bs_get, setAt]
theorem bs_turn {f : Nat} {k : Box → Int} (hf : ∀ x y : Box, run M f [.a (encBox x), .a (encBox y)] [] = some (.c (I (cmpI (k x) (k y))), [])) (m N i : Nat) (hN : N ≤ 1048576) (Z : List (List T)) (R : List Box) (s : BsS) (hs : BsI k N R s) :
    (∃ s', exC (run M) m slices_insertionSortCmpFunc_impl_Box.l1 (bsS f N i Z s) = some (.normal, bsS f N i Z s') ∧ BsI k N R s' ∧ s'.j < s.j) ∨
      (∃ r, exC (run M) m slices_insertionSortCmpFunc_impl_Box.l1 (bsS f N i Z s) = some r ∧ r.1 ≠ .normal ∧ ∃ s', r = (.exit 2, bsE f N i Z s') ∧ s'.D = R) := by
  obtain ⟨j, D, n⟩ := s
  obtain ⟨hl, hj, P, x, Q, hP, hD, hsort, hR⟩ := hs
  simp only at hl hj hP hD
  rcases List.eq_nil_or_concat P with rfl | ⟨P', y, rfl⟩
  · right
    have hj0 : j = 0 := by simpa using hP.symm
    subst hj0
    obtain ⟨n', hh⟩ := bs_nil (M := M) (f := f) m N i (D.map encBox ++ Z) n
    exact ⟨_, hh, by simp, ⟨0, D, n'⟩, rfl, by rw [← hR, hD]; simp [insBy]⟩
  · rw [List.concat_eq_append] at hP hD hsort hR
    have hlen : j = P'.length + 1 := by simpa using hP.symm
    have hDm : D.map encBox = (P' ++ y :: (x :: Q)).map encBox := by rw [hD]; simp
    have hDm2 : D.map encBox = ((P' ++ [y]) ++ x :: Q).map encBox := by rw [hD]
    have a1 : ∀ hh, (D.map encBox ++ Z)[P'.length]'hh = encBox y := by
      intro hh
      rw [List.getElem_append_left (by simp; omega)]
      exact map_at hDm P'.length rfl _
    have a2 : ∀ hh, (D.map encBox ++ Z)[j]'hh = encBox x := by
      intro hh
      rw [List.getElem_append_left (by simp; omega)]
      exact map_at hDm2 j (by simp [hlen]) _
    have hcmp := hf x y
    have e1 : IntKind.i64.wrap ((j : Int) - 1) = (P'.length : Int) := by rw [wrap_i64 (by omega) (by omega)]; omega
    by_cases c : k x < k y
    · left
      obtain ⟨n', hh⟩ := bs_swap hcmp (cmpI_neg.2 c) m N i j P'.length hN (D.map encBox ++ Z) e1 hj (by omega) (by omega) (by simp; omega) (by simp; omega) (by omega) (by omega) a1 a2 n
      refine ⟨⟨P'.length, P' ++ x :: (y :: Q), n'⟩, ?_, ⟨by simp only; rw [hD] at hl; simp at hl ⊢; omega, by simp only; omega, P', x, y :: Q, rfl, rfl, (List.pairwise_append.1 hsort).1, by rw [← hR, insBy_step _ _ _ _ c]⟩, by simp only; omega⟩
      have hs := set_swap encBox P' x y Q
      simp only [bsS]
      rw [← hs, ← hDm, ← hlen]
      rw [List.set_append_left _ _ (by simp; omega), List.set_append_left _ _ (by simp; omega)] at hh
      exact hh
    · right
      obtain ⟨n', hh⟩ := bs_stop hcmp (fun q => c (cmpI_neg.1 q)) m N i j P'.length hN (D.map encBox ++ Z) e1 hj (by omega) (by omega) (by simp; omega) (by simp; omega) (by omega) (by omega) a1 a2 n
      refine ⟨_, hh, by simp, ⟨j, D, n'⟩, rfl, ?_⟩
      simp only
      rw [hD, ← hR, insBy_stop]
      · simp
      · intro z hz
        rcases List.mem_append.1 hz with q | q
        · have := (List.pairwise_append.1 hsort).2.2 z q y (by simp); omega
        · simp at q; subst q; omega
/-- the first i are in order -/
def sortToB (k : Box → Int) (l : List Box) (i : Nat) : List Box := sortBy k (l.take i) ++ l.drop i
theorem sortToB_len (k : Box → Int) (l : List Box) (i : Nat) : (sortToB k l i).length = l.length := by
  simp only [sortToB, List.length_append, sortBy_len, List.length_take, List.length_drop]; omega
structure BtS where
  i : Nat
  n : Nat
def byS (f : Nat) (Z : List (List T)) (k : Box → Int) (l : List Box) (s : BtS) : St := { t := [(0, .c (.row 0 0 0 l.length)), (1, .c (I 0)), (2, .c (I l.length)), (3, .c (.fn f [])), (8, .c (I s.i))], o := [(0, ⟨0, 7, true, false, (sortToB k l s.i).map encBox ++ Z⟩)], n := s.n }
theorem bt_turn {f : Nat} {k : Box → Int} (hf : ∀ x y : Box, run M f [.a (encBox x), .a (encBox y)] [] = some (.c (I (cmpI (k x) (k y))), [])) (m : Nat) (Z : List (List T)) (l : List Box) (hN : l.length ≤ 1048576) (hm : l.length < m) (s : BtS) (hs : 1 ≤ s.i ∧ s.i < l.length) :
    ∃ n', exC (run M) m slices_insertionSortCmpFunc_impl_Box.l0 (byS f Z k l s) = some (.normal, byS f Z k l ⟨s.i + 1, n'⟩) := by
  obtain ⟨i, n⟩ := s
  obtain ⟨h1, h2⟩ := hs
  simp only at h1 h2
  have htk : l.take (i + 1) = l.take i ++ [l[i]] := take_snoc l i h2
  have hdr : l.drop i = l[i] :: l.drop (i + 1) := List.drop_eq_getElem_cons h2
  have hR : insBy k (sortBy k (l.take i)) l[i] ++ l.drop (i + 1) = sortToB k l (i + 1) := by
    simp only [sortToB, htk]
    congr 1
    unfold sortBy
    rw [List.foldl_append]; rfl
  obtain ⟨r, hr, ⟨⟨j, D, n'⟩, rfl, hD⟩⟩ := loop_ex (f := exC (run M) m slices_insertionSortCmpFunc_impl_Box.l1) (bsS f l.length i Z) (BsI k l.length (sortToB k l (i + 1))) (fun s => s.j)
    (fun r => ∃ s', r = (.exit 2, bsE f l.length i Z s') ∧ s'.D = sortToB k l (i + 1)) (fun s hs => bs_turn hf m l.length i hN Z _ s hs) m ⟨i, sortToB k l i, n + 48 + 32⟩
    ⟨sortToB_len k l i, h2, sortBy k (l.take i), l[i], l.drop (i + 1), by rw [sortBy_len]; simp; omega, by simp only [sortToB, hdr], sortBy_sorted _, hR⟩ (by simp only; omega)
  simp only at hD
  subst hD
  simp only [bsS, bsE] at hr
  have e5 : IntKind.i64.wrap ((i : Int) + 1) = (i : Int) + 1 := wrap_i64 (by omega) (by omega)
  simp only [byS]
  generalize (sortToB k l i).map encBox ++ Z = r0 at *
  generalize (sortToB k l (i + 1)).map encBox ++ Z = r1 at *
  simp (maxSteps := 1000000) [slices_insertionSortCmpFunc_impl_Box.l0, List.range_succ, bs_get, setAt, hr, h2, e5]
def bRow (l : List Box) (Z : List (List T)) : Nat × Ob := (0, ⟨0, 7, true, false, l.map encBox ++ Z⟩)
theorem sortToB_all (k : Box → Int) (l : List Box) : sortToB k l l.length = sortBy k l := by simp [sortToB]
theorem sortToB_one (k : Box → Int) (l : List Box) : sortToB k l 1 = l := by
  cases l with
  | nil => rfl
  | cons x l => simp [sortToB, sortBy, insBy]
def byE (f : Nat) (Z : List (List T)) (k : Box → Int) (l : List Box) (s : BtS) : St := { t := [(0, .c (.row 0 0 0 l.length)), (1, .c (I 0)), (2, .c (I l.length)), (3, .c (.fn f [])), (8, .c (I s.i)), (14, .c (.bool false))], o := [(0, ⟨0, 7, true, false, (sortToB k l s.i).map encBox ++ Z⟩)], n := s.n }
theorem bt_end {f : Nat} {k : Box → Int} (m : Nat) (Z : List (List T)) (l : List Box) (i n : Nat) (h : l.length ≤ i) : ∃ n', exC (run M) m slices_insertionSortCmpFunc_impl_Box.l0 (byS f Z k l ⟨i, n⟩) = some (.exit 0, byE f Z k l ⟨i, n'⟩) := by
  have h2 : ¬ i < l.length := by omega
  simp only [byS, byE]
  generalize (sortToB k l i).map encBox ++ Z = r0 at *
  simp (maxSteps := 1000000) [slices_insertionSortCmpFunc_impl_Box.l0, List.range_succ, bs_get, setAt, h2]
theorem slices_insertionSortCmpFunc_impl_Box.says (h : slices_insertionSortCmpFunc_impl_Box.k M) {f : Nat} {k : Box → Int} (hf : ∀ x y : Box, run M f [.a (encBox x), .a (encBox y)] [] = some (.c (I (cmpI (k x) (k y))), []))
    (l : List Box) (Z : List (List T)) (hN : l.length ≤ 1048576) : run M 492 [.c (.row 0 0 0 l.length), .c (I 0), .c (I l.length), .c (.fn f [])] [bRow l Z] = some (.tup [], [bRow (sortBy k l) Z]) := by
  refine run_code (b := slices_insertionSortCmpFunc_impl_Box.m) h ⟨l.length + 1, ?_⟩
  obtain ⟨r, hr, ⟨⟨i, n'⟩, rfl, hi⟩⟩ := loop_ex (f := exC (run M) (l.length + 1) slices_insertionSortCmpFunc_impl_Box.l0) (byS f Z k l) (fun s => 1 ≤ s.i ∧ (s.i ≤ l.length ∨ s.i = 1)) (fun s => l.length - s.i)
    (fun r => ∃ s', r = (.exit 0, byE f Z k l s') ∧ (s'.i = l.length ∨ l.length = 0 ∧ s'.i = 1))
    (fun s hs => by
      obtain ⟨i, n⟩ := s
      by_cases c : i < l.length
      · left
        obtain ⟨n', hh⟩ := bt_turn hf (l.length + 1) Z l hN (by omega) ⟨i, n⟩ ⟨hs.1, c⟩
        exact ⟨_, hh, ⟨by simp only; omega, by simp only; omega⟩, by simp only; omega⟩
      · right
        obtain ⟨n', hh⟩ := bt_end (M := M) (f := f) (k := k) (l.length + 1) Z l i n (by omega)
        simp only at hs
        exact ⟨_, hh, by simp, _, rfl, by simp only; omega⟩) (l.length + 1) ⟨1, 2000048⟩ ⟨by simp, by simp⟩ (by simp only; omega)
  have e1 : sortToB k l i = sortBy k l := by
    rcases hi with hi | ⟨h0, hi⟩
    · simp only at hi; rw [hi, sortToB_all]
    · have : l = [] := List.eq_nil_of_length_eq_zero h0
      subst this; simp [sortToB, sortBy]
  simp only [byS, byE, e1, sortToB_one] at hr
  have e2 : IntKind.i64.wrap 1 = 1 := by decide
  have e3 : ((1 : Nat) : Int) = 1 := rfl
  rw [e3] at hr
  simp only [bRow]
  generalize l.map encBox ++ Z = r0 at *
  generalize (sortBy k l).map encBox ++ Z = r1 at *
  simp (maxSteps := 1000000) [exB, slices_insertionSortCmpFunc_impl_Box.m, slices_insertionSortCmpFunc_impl_Box.b, List.range_succ, bs_get, setAt, hr, e2]
/-- from the end on there is nothing to be done -/
theorem slices_insertionSortCmpFunc_impl_Box.rest (h : slices_insertionSortCmpFunc_impl_Box.k M) {f : Nat} (l : List Box) (Z : List (List T)) (hN : l.length ≤ 1048576) :
    run M 492 [.c (.row 0 0 0 l.length), .c (I l.length), .c (I l.length), .c (.fn f [])] [bRow l Z] = some (.tup [], [bRow l Z]) := by
  refine run_code (b := slices_insertionSortCmpFunc_impl_Box.m) h ⟨1, ?_⟩
  have e2 : IntKind.i64.wrap ((l.length : Int) + 1) = (l.length : Int) + 1 := wrap_i64 (by omega) (by omega)
  have e3 : ¬ (l.length : Int) + 1 < l.length := by omega
  simp only [bRow]
  have e4 : l.length ≤ (l.map encBox ++ Z).length := by simp
  generalize l.map encBox ++ Z = r0 at *
  simp (maxSteps := 1000000) [exB, slices_insertionSortCmpFunc_impl_Box.m, slices_insertionSortCmpFunc_impl_Box.b, List.range_succ, bs_get, setAt, loopN, slices_insertionSortCmpFunc_impl_Box.l0, e2, e3]
theorem slices_stableCmpFunc_impl_Box.says (h : slices_stableCmpFunc_impl_Box.k M) {f : Nat} {k : Box → Int} (hf : ∀ x y : Box, run M f [.a (encBox x), .a (encBox y)] [] = some (.c (I (cmpI (k x) (k y))), []))
    (l : List Box) (Z : List (List T)) (hN : l.length ≤ 20) : run M 490 [.c (.row 0 0 0 l.length), .c (I l.length), .c (.fn f [])] [bRow l Z] = some (.tup [], [bRow (sortBy k l) Z]) := by
  obtain ⟨h0, k1⟩ := h
  have h1 := slices_insertionSortCmpFunc_impl_Box.says k1 hf l Z (by omega)
  have h2 := slices_insertionSortCmpFunc_impl_Box.rest k1 (f := f) (sortBy k l) Z (by rw [sortBy_len]; omega)
  rw [sortBy_len] at h2
  refine run_code (b := slices_stableCmpFunc_impl_Box.m) h0 ⟨2, ?_⟩
  have e1 : l.length ≤ (l.map encBox ++ Z).length := by simp
  have e2 : l.length ≤ ((sortBy k l).map encBox ++ Z).length := by simp [sortBy_len]
  simp only [bRow] at h1 h2 ⊢
  generalize l.map encBox ++ Z = r0 at *
  generalize (sortBy k l).map encBox ++ Z = r1 at *
  by_cases c : l.length = 20
  · generalize l.length = N at *
    subst c
    simp only [Int.cast_ofNat_Int] at h1 h2
    have w1 : IntKind.i64.wrap 40 = 40 := by decide
    simp (maxSteps := 1000000) [exB, slices_stableCmpFunc_impl_Box.m, slices_stableCmpFunc_impl_Box.b, List.range_succ, bs_get, setAt, h1, h2, w1, loopN, slices_stableCmpFunc_impl_Box.l0, slices_stableCmpFunc_impl_Box.l1, e1, e2]
  · have c1 : ¬ (20 : Int) ≤ l.length := by omega
    have c2 : ¬ (20 : Int) < l.length := by omega
    have c3 : ¬ 20 ≤ l.length := by omega
    have c4 : ¬ 20 < l.length := by omega
    simp (maxSteps := 1000000) [exB, slices_stableCmpFunc_impl_Box.m, slices_stableCmpFunc_impl_Box.b, List.range_succ, bs_get, setAt, h1, h2, c1, c2, c3, c4, loopN, slices_stableCmpFunc_impl_Box.l0, slices_stableCmpFunc_impl_Box.l1, e1, e2]
theorem slices_SortStableFunc_impl_Box_impl_Box.says (h : slices_SortStableFunc_impl_Box_impl_Box.k M) {f : Nat} {k : Box → Int} (hf : ∀ x y : Box, run M f [.a (encBox x), .a (encBox y)] [] = some (.c (I (cmpI (k x) (k y))), []))
    (l : List Box) (Z : List (List T)) (hN : l.length ≤ 20) : run M 480 [.c (.row 0 0 0 l.length), .c (.fn f [])] [bRow l Z] = some (.tup [], [bRow (sortBy k l) Z]) := by
  have h1 := slices_stableCmpFunc_impl_Box.says h.2 hf l Z hN
  refine run_code (b := slices_SortStableFunc_impl_Box_impl_Box.m) h.1 ⟨0, ?_⟩
  have e1 : l.length ≤ (l.map encBox ++ Z).length := by simp
  simp only [bRow] at h1 ⊢
  generalize l.map encBox ++ Z = r0 at *
  generalize (sortBy k l).map encBox ++ Z = r1 at *
  simp (maxSteps := 1000000) [exB, slices_SortStableFunc_impl_Box_impl_Box.m, slices_SortStableFunc_impl_Box_impl_Box.b, List.range_succ, bs_get, setAt, h1, e1]
end Mx

namespace Mx
open Go
variable {M : Nat → Option Body}
def bigS (f : Nat) (cs : List T) (l : List Box) (i : Nat) (x : Nat) : St := { t := [(0, .c (boxes l)), (1, .c (.fn f [.vp cs 0])), (7, .c (I l.length)), (8, .c (I i))], o := [], n := x }
theorem slices_IndexFunc_impl_Box_impl_Box.gen (h : slices_IndexFunc_impl_Box_impl_Box.k M) {f : Nat} {cs : List T} {p : Box → Bool} (hf : ∀ m, run M f [.a (encBox m), .c (.vp cs 0)] [] = some (.c (.bool (p m)), [])) (l : List Box) (hl : l.length ≤ 1048576) :
    run M 200 [.c (boxes l), .c (.fn f [.vp cs 0])] [] = some (.c (I (intO (firstN (pAt p l) l.length))), []) := by
  refine run_code (b := slices_IndexFunc_impl_Box_impl_Box.m) h ⟨l.length + 1, ?_⟩
  obtain ⟨g', hr⟩ := first_loop (f := exC (run M) (l.length + 1) slices_IndexFunc_impl_Box_impl_Box.l0) l.length (pAt p l) (bigS f cs l) atFin atFin_ne
    (fun i hi x c => by
      have hm := hf l[i]
      rw [pAt_at p l i hi] at c
      rw [c] at hm
      have e5 : IntKind.i64.wrap ((i : Int) + 1) = (i : Int) + 1 := wrap_i64 (by omega) (by omega)
      simp [bigS, slices_IndexFunc_impl_Box_impl_Box.l0, hi, hm, encBox, e5])
    (fun i hi x c => by
      have hm := hf l[i]
      rw [pAt_at p l i hi] at c
      rw [c] at hm
      simp [bigS, slices_IndexFunc_impl_Box_impl_Box.l0, hi, hm, encBox, atFin]
      exact ⟨⟨[], [], _⟩, rfl⟩)
    (fun x => by simp [bigS, slices_IndexFunc_impl_Box_impl_Box.l0, atFin])
  cases hm : firstN (pAt p l) l.length with
  | none =>
    simp [bigS, hm, atFin] at hr
    simp [exB, slices_IndexFunc_impl_Box_impl_Box.m, slices_IndexFunc_impl_Box_impl_Box.b, List.range_succ, hr, intO]
  | some k =>
    simp [bigS, hm, atFin] at hr
    simp [exB, slices_IndexFunc_impl_Box_impl_Box.m, slices_IndexFunc_impl_Box_impl_Box.b, List.range_succ, hr, intO]
theorem bd_keep {f : Nat} {cs : List T} {g t w u : Int} {nm : List UInt8} {fl tx : List (List T)} (hf : run M f [.a [I g, S nm, I t, I w, I u, .sl false 4 fl, .sl false 1 tx], .c (.vp cs 0)] [] = some (.c (.bool false), [])) (m N i j : Nat) (hN : N ≤ 1048576) (rr : List (List T)) (hj : j < N) (hi : i < N) (e2 : rr.length = N)
    (a1 : ∀ hh, rr[j]'hh = [I g, S nm, I t, I w, I u, .sl false 4 fl, .sl false 1 tx]) (n : Nat) (ri : List T) (a2 : rr[i]? = some ri) (a3 : ri.length = 7) :
    ∃ n', exC (run M) m slices_DeleteFunc_impl_Box_impl_Box.l0 { t := [(0, .c (.row 0 0 0 N)), (1, .c (.fn f [.vp cs 0])), (5, .c (I i)), (6, .c (I j))], o := [(0, ⟨0, 7, true, false, rr⟩)], n := n } =
      some (.normal, { t := [(0, .c (.row 0 0 0 N)), (1, .c (.fn f [.vp cs 0])), (5, .c (I (i + 1 : Nat))), (6, .c (I (j + 1 : Nat)))], o := [(0, ⟨0, 7, true, false, rr.set i [I g, S nm, I t, I w, I u, .sl false 4 fl, .sl false 1 tx]⟩)], n := n' }) := by
  have e5 : IntKind.i64.wrap ((i : Int) + 1) = (i : Int) + 1 := wrap_i64 (by omega) (by omega)
  have e6 : IntKind.i64.wrap ((j : Int) + 1) = (j : Int) + 1 := wrap_i64 (by omega) (by omega)
  match ri, a3 with
  | [r0, r1, r2, r3, r4, r5, r6], _ =>
    have a4 : ∀ hh, rr[i]'hh = [r0, r1, r2, r3, r4, r5, r6] := by
      intro hh; rw [List.getElem?_eq_getElem hh] at a2; exact Option.some.inj a2
    clear a2
    simp (maxSteps := 1000000) [slices_DeleteFunc_impl_Box_impl_Box.l0, List.range_succ, bs_get, setAt, hf, hj, hi, e2, a1, a4, e5, e6]
theorem bd_drop {f : Nat} {cs : List T} {g t w u : Int} {nm : List UInt8} {fl tx : List (List T)} (hf : run M f [.a [I g, S nm, I t, I w, I u, .sl false 4 fl, .sl false 1 tx], .c (.vp cs 0)] [] = some (.c (.bool true), [])) (m N i j : Nat) (hN : N ≤ 1048576) (rr : List (List T)) (hj : j < N) (e2 : rr.length = N)
    (a1 : ∀ hh, rr[j]'hh = [I g, S nm, I t, I w, I u, .sl false 4 fl, .sl false 1 tx]) (n : Nat) :
    ∃ n', exC (run M) m slices_DeleteFunc_impl_Box_impl_Box.l0 { t := [(0, .c (.row 0 0 0 N)), (1, .c (.fn f [.vp cs 0])), (5, .c (I i)), (6, .c (I j))], o := [(0, ⟨0, 7, true, false, rr⟩)], n := n } =
      some (.normal, { t := [(0, .c (.row 0 0 0 N)), (1, .c (.fn f [.vp cs 0])), (5, .c (I i)), (6, .c (I (j + 1 : Nat)))], o := [(0, ⟨0, 7, true, false, rr⟩)], n := n' }) := by
  have e6 : IntKind.i64.wrap ((j : Int) + 1) = (j : Int) + 1 := wrap_i64 (by omega) (by omega)
  simp (maxSteps := 1000000) [slices_DeleteFunc_impl_Box_impl_Box.l0, List.range_succ, bs_get, setAt, hf, hj, e2, a1, e6]
theorem bd_end {f : Nat} {cs : List T} (m N i j : Nat) (rr : List (List T)) (hj : ¬ j < N) (n : Nat) :
    ∃ n', exC (run M) m slices_DeleteFunc_impl_Box_impl_Box.l0 { t := [(0, .c (.row 0 0 0 N)), (1, .c (.fn f [.vp cs 0])), (5, .c (I i)), (6, .c (I j))], o := [(0, ⟨0, 7, true, false, rr⟩)], n := n } =
      some (.exit 0, { t := [(0, .c (.row 0 0 0 N)), (1, .c (.fn f [.vp cs 0])), (5, .c (I i)), (6, .c (I j)), (19, .c (.bool false))], o := [(0, ⟨0, 7, true, false, rr⟩)], n := n' }) := by
  simp (maxSteps := 1000000) [slices_DeleteFunc_impl_Box_impl_Box.l0, List.range_succ, bs_get, setAt, hj]
structure BdS where
  j : Nat
  D : List Box
  n : Nat
def keptB (p : Box → Bool) (l : List Box) (j : Nat) : List Box := (l.take j).filter fun m => !p m
def bdS (f : Nat) (cs : List T) (p : Box → Bool) (l : List Box) (s : BdS) : St := { t := [(0, .c (.row 0 0 0 l.length)), (1, .c (.fn f [.vp cs 0])), (5, .c (I (keptB p l s.j).length)), (6, .c (I s.j))], o := [(0, ⟨0, 7, true, false, s.D.map encBox⟩)], n := s.n }
def bdE (f : Nat) (cs : List T) (p : Box → Bool) (l : List Box) (s : BdS) : St := { t := [(0, .c (.row 0 0 0 l.length)), (1, .c (.fn f [.vp cs 0])), (5, .c (I (keptB p l s.j).length)), (6, .c (I s.j)), (19, .c (.bool false))], o := [(0, ⟨0, 7, true, false, s.D.map encBox⟩)], n := s.n }
structure BdI (p : Box → Bool) (l : List Box) (s : BdS) : Prop where
  j : s.j ≤ l.length
  len : s.D.length = l.length
  tk : s.D.take (keptB p l s.j).length = keptB p l s.j
  dr : s.D.drop s.j = l.drop s.j
  lt : (keptB p l s.j).length < s.j
theorem bd_turn {f : Nat} {cs : List T} {p : Box → Bool} (hf : ∀ m, run M f [.a (encBox m), .c (.vp cs 0)] [] = some (.c (.bool (p m)), [])) (k : Nat) (l : List Box) (hN : l.length ≤ 1048576) (s : BdS) (hs : BdI p l s) :
    (∃ s', exC (run M) k slices_DeleteFunc_impl_Box_impl_Box.l0 (bdS f cs p l s) = some (.normal, bdS f cs p l s') ∧ BdI p l s' ∧ l.length - s'.j < l.length - s.j) ∨
      (∃ r, exC (run M) k slices_DeleteFunc_impl_Box_impl_Box.l0 (bdS f cs p l s) = some r ∧ r.1 ≠ .normal ∧ ∃ s', r = (.exit 0, bdE f cs p l s') ∧ s'.j = l.length ∧ BdI p l s') := by
  obtain ⟨j, D, n⟩ := s
  obtain ⟨h1, h2, h3, h4, h5⟩ := hs
  simp only at h1 h2 h3 h4 h5
  by_cases c : j < l.length
  · left
    have hD : D[j]'(by omega) = l[j] := by
      have q1 := List.drop_eq_getElem_cons (l := D) (i := j) (by omega)
      have q2 := List.drop_eq_getElem_cons (l := l) (i := j) c
      rw [h4, q2] at q1
      exact (List.cons.inj q1).1.symm
    have hdr : D.drop (j + 1) = l.drop (j + 1) := by
      have q1 := List.drop_eq_getElem_cons (l := D) (i := j) (by omega)
      have q2 := List.drop_eq_getElem_cons (l := l) (i := j) c
      rw [h4, q2] at q1
      exact (List.cons.inj q1).2.symm
    have a1 : ∀ hh, (D.map encBox)[j]'hh = encBox l[j] := by intro hh; simp [hD]
    have e2 : (D.map encBox).length = l.length := by simpa using h2
    have hm := hf l[j]
    have ek : keptB p l (j + 1) = keptB p l j ++ if p l[j] = true then [] else [l[j]] := by
      simp only [keptB, take_snoc l j c, List.filter_append]
      cases q : p l[j] <;> simp [q]
    cases q : p l[j] with
    | true =>
      rw [q] at hm
      obtain ⟨n', hh⟩ := bd_drop hm k l.length (keptB p l j).length j hN (D.map encBox) c e2 a1 n
      rw [q] at ek
      simp only [if_true, List.append_nil] at ek
      refine ⟨⟨j + 1, D, n'⟩, ?_, ⟨by simp only; omega, h2, by simp only [ek]; exact h3, hdr, by simp only [ek]; omega⟩, by simp only; omega⟩
      simp only [bdS, ek]
      exact hh
    | false =>
      rw [q] at hm
      have hi : (keptB p l j).length < l.length := by omega
      obtain ⟨n', hh⟩ := bd_keep hm k l.length (keptB p l j).length j hN (D.map encBox) c hi e2 a1 n (encBox (D[(keptB p l j).length]'(by omega))) (by rw [List.getElem?_map, List.getElem?_eq_getElem (by omega)]; rfl) rfl
      rw [q] at ek
      simp only [Bool.false_eq_true, if_false] at ek
      have el : (keptB p l (j + 1)).length = (keptB p l j).length + 1 := by rw [ek]; simp
      refine ⟨⟨j + 1, D.set (keptB p l j).length l[j], n'⟩, ?_, ⟨by simp only; omega, by simpa using h2, ?_, ?_, by simp only [el]; omega⟩, by simp only; omega⟩
      · simp only [bdS, el, List.map_set]
        exact hh
      · show (D.set (keptB p l j).length l[j]).take (keptB p l (j + 1)).length = keptB p l (j + 1)
        rw [el, ek, take_snoc _ _ (by simp; omega), List.take_set_of_le (Nat.le_refl _), h3]
        simp
      · simp only
        rw [List.drop_set_of_lt (by omega)]
        exact hdr
  · right
    have hj : j = l.length := by omega
    obtain ⟨n', hh⟩ := bd_end (M := M) (f := f) (cs := cs) k l.length (keptB p l j).length j (D.map encBox) c n
    exact ⟨_, hh, by simp, ⟨j, D, n'⟩, rfl, hj, ⟨h1, h2, h3, h4, h5⟩⟩
theorem slices_DeleteFunc_impl_Box_impl_Box.says (h : slices_DeleteFunc_impl_Box_impl_Box.k M) {f : Nat} {cs : List T} {p : Box → Bool} (hf : ∀ m, run M f [.a (encBox m), .c (.vp cs 0)] [] = some (.c (.bool (p m)), [])) (l : List Box) (hl : l.length ≤ 1048576) :
    run M 478 [.c (.row 0 0 0 l.length), .c (.fn f [.vp cs 0])] [bRow l []] =
      some (.c (.row 0 0 0 (l.filter fun m => !p m).length), [(0, ⟨0, 7, true, false, (l.filter fun m => !p m).map encBox ++ List.replicate (l.length - (l.filter fun m => !p m).length) bzero⟩)]) := by
  obtain ⟨h0, k1⟩ := h
  have h1 := slices_IndexFunc_impl_Box_impl_Box.gen k1 hf l hl
  refine run_code (b := slices_DeleteFunc_impl_Box_impl_Box.m) h0 ⟨l.length + 1, ?_⟩
  have e0 : (l.map encBox).length = l.length := by simp
  cases hq : firstN (pAt p l) l.length with
  | none =>
    have hall : (l.filter fun m => !p m) = l := List.filter_eq_self.2 fun m hm => by
      obtain ⟨j, hj, rfl⟩ := List.getElem_of_mem hm
      have := firstN_none hq j hj
      rw [pAt_at p l j hj] at this
      simp [this]
    rw [hall, Nat.sub_self, List.replicate_zero, List.append_nil]
    rw [hq] at h1
    simp only [bRow, boxes, intO, List.append_nil] at h1 ⊢
    generalize l.map encBox = r0 at *
    simp (maxSteps := 1000000) [exB, slices_DeleteFunc_impl_Box_impl_Box.m, slices_DeleteFunc_impl_Box_impl_Box.b, List.range_succ, bs_get, setAt, h1, e0, List.take_of_length_le]
  | some k =>
    rw [hq] at h1
    obtain ⟨hk1, hk2, hk3⟩ := firstN_some hq
    rw [pAt_at p l k hk1] at hk2
    have ek : keptB p l k = l.take k := by
      refine List.filter_eq_self.2 fun m hm => ?_
      obtain ⟨j, hj, rfl⟩ := List.getElem_of_mem hm
      have hj' : j < k := by simp at hj; omega
      have := hk3 j hj'
      rw [pAt_at p l j (by omega)] at this
      simp [this]
    have ek1 : keptB p l (k + 1) = l.take k := by
      simp only [keptB, take_snoc l k hk1, List.filter_append] at ek ⊢
      rw [ek]; simp [hk2]
    have el : (keptB p l (k + 1)).length = k := by rw [ek1]; simp; omega
    obtain ⟨r, hr, ⟨⟨j, D, n'⟩, rfl, hj, hI⟩⟩ := loop_ex (f := exC (run M) (l.length + 1) slices_DeleteFunc_impl_Box_impl_Box.l0) (bdS f cs p l) (BdI p l) (fun s => l.length - s.j)
      (fun r => ∃ s', r = (.exit 0, bdE f cs p l s') ∧ s'.j = l.length ∧ BdI p l s') (fun s hs => bd_turn hf (l.length + 1) l hl s hs) (l.length + 1) ⟨k + 1, l, 2000160⟩
      ⟨by simp only; omega, rfl, by show l.take (keptB p l (k + 1)).length = keptB p l (k + 1); rw [el, ek1], rfl, by simp only [el]; omega⟩ (by simp only; omega)
    obtain ⟨_, hlen, htk, _, hlt⟩ := hI
    simp only at hj hlen htk hlt
    subst hj
    have ef : keptB p l l.length = l.filter fun m => !p m := by simp [keptB]
    rw [ef] at htk hlt
    simp only [bdS, bdE, el, ef] at hr
    have e1 : (D.map encBox).length = l.length := by simpa using hlen
    have e2 : (D.map encBox).take (l.filter fun m => !p m).length = (l.filter fun m => !p m).map encBox := by rw [← List.map_take, htk]
    have e3 : ((l.filter fun m => !p m).map encBox).length = (l.filter fun m => !p m).length := by simp
    have e5 : IntKind.i64.wrap ((k : Int) + 1) = (k : Int) + 1 := wrap_i64 (by omega) (by omega)
    have e6 : ((k + 1 : Nat) : Int) = (k : Int) + 1 := by omega
    have e7 : ¬ (k : Int) = -1 := by omega
    rw [e6] at hr
    simp only [bRow, boxes, intO, List.append_nil] at h1 ⊢
    generalize (l.filter fun m => !p m).map encBox = rf at *
    generalize (l.filter fun m => !p m).length = nf at *
    generalize D.map encBox = rd at *
    generalize l.map encBox = r0 at *
    clear hk2 hk3 ek ek1 el hq ef
    generalize l.length = N at *
    have e8 : nf ≤ N := by omega
    have e9 : ¬ N = nf := by omega
    have e10 : ¬ nf = N := by omega
    have e11 : nf + (N - nf) = N := by omega
    have e12 : ¬ N - nf = 0 := by omega
    have e13 : List.drop N rd = [] := List.drop_eq_nil_of_le (by omega)
    simp (maxSteps := 1000000) [exB, slices_DeleteFunc_impl_Box_impl_Box.m, slices_DeleteFunc_impl_Box_impl_Box.b, List.range_succ, bs_get, setAt, h1, hr, e0, e1, e2, e3, e5, e7, e8, e9, e10, e11, e12, e13, List.take_of_length_le]
end Mx

namespace Mx
open Go
variable {M : Nat → Option Body}
def fig (d : Nat) : UInt8 := UInt8.ofNat (48 + d)
def digs (m : Nat) (acc : List UInt8) : List UInt8 := if m = 0 then acc else digs (m / 10) (fig (m % 10) :: acc)
termination_by m
decreasing_by omega
theorem digs_zero (acc : List UInt8) : digs 0 acc = acc := by rw [digs]; simp
theorem digs_step {m : Nat} (h : m ≠ 0) (acc : List UInt8) : digs m acc = digs (m / 10) (fig (m % 10) :: acc) := by rw [digs, if_neg h]
def dec (n : Int) : List UInt8 := if n = 0 then [48] else (if n < 0 then [45] else []) ++ digs n.natAbs []
theorem digs_len : ∀ (k m : Nat) (acc : List UInt8), m < 10 ^ k → (digs m acc).length ≤ acc.length + k := by
  intro k
  induction k with
  | zero => intro m acc h; have : m = 0 := by simpa using h
            subst this; rw [digs_zero]; omega
  | succ k ih =>
    intro m acc h
    by_cases h0 : m = 0
    · subst h0; rw [digs_zero]; omega
    · rw [digs_step h0]
      have := ih (m / 10) (fig (m % 10) :: acc) (by rw [Nat.pow_succ] at h; omega)
      simp at this; omega
theorem dec_len {n : Int} (h : -9223372036854775808 ≤ n) (h' : n ≤ 9223372036854775807) : (dec n).length ≤ 21 := by
  unfold dec
  have := digs_len 20 n.natAbs [] (by omega)
  simp at this
  split
  · simp
  · split <;> simp <;> omega
theorem spec_l01Figure.says (h : spec_l01Figure.k M) (d : Nat) (hd : d < 10) : run M 247 [.c (I d)] [] = some (.c (U8 (fig d).toNat), []) := by
  refine run_code (b := spec_l01Figure.m) h ⟨0, ?_⟩
  have e0 : (d : Int) < 10 := by omega
  have e1 : IntKind.i64.wrap (48 + (d : Int)) = 48 + (d : Int) := wrap_i64 (by omega) (by omega)
  have e2 : IntKind.u8.wrap (48 + (d : Int)) = ((fig d).toNat : Int) := by
    unfold IntKind.wrap; simp [IntKind.bits, IntKind.signed, fig] <;> omega
  simp [exB, spec_l01Figure.m, spec_l01Figure.b, List.range_succ, e0, e1, e2]
def spDec (b : Bool) (s : Int × List UInt8) (x : Nat) : St := { t := [(0, .c (I s.1)), (3, .c (.bool b)), (4, .c (S s.2))], o := [], n := x }
def decInv (s : Int × List UInt8) : Prop := -9223372036854775808 ≤ s.1 ∧ s.1 ≤ 9223372036854775807 ∧ ∃ k, s.1.natAbs < 10 ^ k ∧ s.2.length + k ≤ 20
theorem decInv_step {n : Int} {acc : List UInt8} (h : decInv (n, acc)) (h0 : n ≠ 0) (b : UInt8) : decInv (n.tdiv 10, b :: acc) := by
  obtain ⟨h1, h2, k, h3, h4⟩ := h
  simp only at h1 h2 h3 h4
  have e : (n.tdiv 10).natAbs = n.natAbs / 10 := by rw [Int.natAbs_tdiv]; rfl
  cases k with
  | zero => simp at h3; omega
  | succ k => exact ⟨by simp only; omega, by simp only; omega, k, by simp only; rw [e]; rw [Nat.pow_succ] at h3; omega, by simp; omega⟩
theorem tmod_ten (n : Int) : n.tmod 10 = (n.natAbs % 10 : Nat) ∨ (n.tmod 10 < 0 ∧ n.tmod 10 = - (n.natAbs % 10 : Nat)) := by
  have e : (n.tmod 10).natAbs = n.natAbs % 10 := by rw [Int.natAbs_tmod]; rfl
  omega
theorem spec_Decimal.round (h : spec_Decimal.k M) (k : Nat) (b : Bool) (s : Int × List UInt8) (x : Nat) (hi : decInv s) (h0 : s.1 ≠ 0) :
    ∃ y, exC (run M) k spec_Decimal.l0 (spDec b s x) = some (.normal, spDec b (s.1.tdiv 10, fig (s.1.natAbs % 10) :: s.2) y) := by
  obtain ⟨n, acc⟩ := s
  obtain ⟨h1, h2, k', h3, h4⟩ := hi
  simp only at h0 h1 h2 h3 h4
  have hf := spec_l01Figure.says h.2 (n.natAbs % 10) (by omega)
  have ed : (n.tdiv 10).natAbs = n.natAbs / 10 := by rw [Int.natAbs_tdiv]; rfl
  have e1 : IntKind.i64.wrap (n.tdiv 10) = n.tdiv 10 := wrap_i64 (by omega) (by omega)
  have e2 : acc.length + 1 ≤ 4611686018427387904 := by omega
  have e3 : 1 + acc.length ≤ 4611686018427387904 := by omega
  rcases tmod_ten n with ht | ⟨ht0, ht⟩
  · have e0 : ¬ (((n.natAbs % 10 : Nat) : Int) < 0) := by omega
    generalize n.natAbs % 10 = d at *
    simp only [spDec, spec_Decimal.l0]
    simp (disch := (first | omega | (simp; done) | (simp; omega))) [h0, ht, hf, e1, e0, str_add, rowsBytes]
  · have e0 : n.tmod 10 < 0 := ht0
    have e4 : IntKind.i64.wrap (0 - n.tmod 10) = ((n.natAbs % 10 : Nat) : Int) := by rw [wrap_i64 (by omega) (by omega)]; omega
    generalize n.natAbs % 10 = d at *
    simp only [spDec, spec_Decimal.l0]
    simp only [Int.zero_sub] at e4
    simp (disch := (first | omega | (simp; done) | (simp; omega))) [h0, e0, e4, hf, e1, str_add, rowsBytes]
theorem spec_Decimal.says (h : spec_Decimal.k M) (n : Int) (hn : -9223372036854775808 ≤ n) (hn' : n ≤ 9223372036854775807) : run M 197 [.c (I n)] [] = some (.c (S (dec n)), []) := by
  refine run_code (b := spec_Decimal.m) h.1 ⟨n.natAbs + 1, ?_⟩
  by_cases h0 : n = 0
  · simp [exB, spec_Decimal.m, spec_Decimal.b, List.range_succ, h0, dec]
  obtain ⟨g, hr⟩ := loop_all (f := exC (run M) (n.natAbs + 1) spec_Decimal.l0) (spDec (decide (n < 0))) decInv (fun s => s.1.natAbs) (fun s => digs s.1.natAbs s.2)
    (fun q m => (.exit 0, { t := [(0, .c (I 0)), (3, .c (.bool (decide (n < 0)))), (4, .c (S q)), (11, .c (.bool false))], o := [], n := m }))
    (by
      intro s x hi
      by_cases hs : s.1 = 0
      · right
        exact ⟨x + 32, by simp [spDec, spec_Decimal.l0, hs, digs_zero], by simp⟩
      · left
        obtain ⟨y, hy⟩ := spec_Decimal.round h (n.natAbs + 1) (decide (n < 0)) s x hi hs
        have e : (s.1.tdiv 10).natAbs = s.1.natAbs / 10 := by rw [Int.natAbs_tdiv]; rfl
        refine ⟨_, y, hy, decInv_step hi hs _, by simp only; omega, ?_⟩
        simp only [e]
        exact (digs_step (by omega) _).symm)
    (n.natAbs + 1) (n, []) ⟨hn, hn', 20, by simp only; omega, by simp⟩ (by simp only; omega)
  have hl := digs_len 20 n.natAbs [] (by omega)
  simp [spDec] at hr hl
  by_cases hneg : n < 0
  · simp [hneg] at hr
    simp (disch := (first | omega | (simp; done) | (simp; omega))) [exB, spec_Decimal.m, spec_Decimal.b, List.range_succ, h0, dec, hneg, hr, str_add]
  · simp [hneg] at hr
    simp (disch := (first | omega | (simp; done) | (simp; omega))) [exB, spec_Decimal.m, spec_Decimal.b, List.range_succ, h0, dec, hneg, hr, str_add]
def imDec (n : Int) (s : Int × List UInt8) (x : Nat) : St := { t := [(0, .c (I n)), (3, .c (S s.2)), (4, .c (I s.1))], o := [], n := x }
theorem fig_of : ∀ d : Nat, d < 10 → ∃ h : d < 16, ([48, 49, 50, 51, 52, 53, 54, 55, 56, 57, 97, 98, 99, 100, 101, 102] : List UInt8)[d] = fig d := by decide
theorem impl_Decimal.round (k : Nat) (n0 : Int) (s : Int × List UInt8) (x : Nat) (hi : decInv s) (h0 : s.1 ≠ 0) :
    ∃ y, exC (run M) k impl_Decimal.l0 (imDec n0 s x) = some (.normal, imDec n0 (s.1.tdiv 10, fig (s.1.natAbs % 10) :: s.2) y) := by
  obtain ⟨n, acc⟩ := s
  obtain ⟨h1, h2, k', h3, h4⟩ := hi
  simp only at h0 h1 h2 h3 h4
  have ed : (n.tdiv 10).natAbs = n.natAbs / 10 := by rw [Int.natAbs_tdiv]; rfl
  have e1 : IntKind.i64.wrap (n.tdiv 10) = n.tdiv 10 := wrap_i64 (by omega) (by omega)
  have e2 : acc.length + 1 ≤ 4611686018427387904 := by omega
  have e3 : 1 + acc.length ≤ 4611686018427387904 := by omega
  have hd : n.natAbs % 10 < 10 := by omega
  have e5 : IntKind.i64.wrap (((n.natAbs % 10 : Nat) : Int) + 1) = ((n.natAbs % 10 + 1 : Nat) : Int) := wrap_i64 (by omega) (by omega)
  have e4 : IntKind.i64.wrap (-(n.tmod 10)) = -(n.tmod 10) := wrap_i64 (by have := tmod_ten n; omega) (by have := tmod_ten n; omega)
  have e6 : (if n.tmod 10 < -(n.tmod 10) then -(n.tmod 10) else n.tmod 10) = ((n.natAbs % 10 : Nat) : Int) := by
    rcases tmod_ten n with ht | ⟨ht0, ht⟩ <;> split <;> omega
  generalize n.natAbs % 10 = d at *
  obtain ⟨hd16, hfig⟩ := fig_of d hd
  have e7 := take_drop1 ([48, 49, 50, 51, 52, 53, 54, 55, 56, 57, 97, 98, 99, 100, 101, 102] : List UInt8) d hd16
  rw [hfig] at e7
  simp only [List.take_succ_cons] at e7
  have e8 : d + 1 ≤ 16 := by omega
  have e9 : (0 : Int) ≤ (d : Int) + 1 := by omega
  have e10 : ((d : Int) + 1).toNat = d + 1 := by omega
  simp only [imDec, impl_Decimal.l0]
  simp (disch := (first | omega | (simp; done) | (simp; omega))) [h0, e4, e5, e6, e7, e8, e9, e10, e1, str_add]
theorem impl_Decimal.says (h : impl_Decimal.k M) (n : Int) (hn : -9223372036854775808 ≤ n) (hn' : n ≤ 9223372036854775807) : run M 128 [.c (I n)] [] = some (.c (S (dec n)), []) := by
  refine run_code (b := impl_Decimal.m) h ⟨n.natAbs + 1, ?_⟩
  by_cases h0 : n = 0
  · simp [exB, impl_Decimal.m, impl_Decimal.b, List.range_succ, h0, dec]
  obtain ⟨g, hr⟩ := loop_all (f := exC (run M) (n.natAbs + 1) impl_Decimal.l0) (imDec n) decInv (fun s => s.1.natAbs) (fun s => digs s.1.natAbs s.2)
    (fun q m => (.exit 0, { t := [(0, .c (I n)), (3, .c (S q)), (4, .c (I 0)), (10, .c (.bool false))], o := [], n := m }))
    (by
      intro s x hi
      by_cases hs : s.1 = 0
      · right
        exact ⟨x + 32, by simp [imDec, impl_Decimal.l0, hs, digs_zero], by simp⟩
      · left
        obtain ⟨y, hy⟩ := impl_Decimal.round (n.natAbs + 1) n s x hi hs
        have e : (s.1.tdiv 10).natAbs = s.1.natAbs / 10 := by rw [Int.natAbs_tdiv]; rfl
        refine ⟨_, y, hy, decInv_step hi hs _, by simp only; omega, ?_⟩
        simp only [e]
        exact (digs_step (by omega) _).symm)
    (n.natAbs + 1) (n, []) ⟨hn, hn', 20, by simp only; omega, by simp⟩ (by simp only; omega)
  have hl := digs_len 20 n.natAbs [] (by omega)
  simp [imDec] at hr hl
  by_cases hneg : n < 0
  · simp (disch := (first | omega | (simp; done) | (simp; omega))) [exB, impl_Decimal.m, impl_Decimal.b, List.range_succ, h0, dec, hneg, hr, str_add]
  · simp (disch := (first | omega | (simp; done) | (simp; omega))) [exB, impl_Decimal.m, impl_Decimal.b, List.range_succ, h0, dec, hneg, hr, str_add]
end Mx

namespace Mx
open Go
variable {M : Nat → Option Body}
def otherName (s : List UInt8) (g : Int) : List UInt8 := s.take 6 ++ [120] ++ if 0 < g then (dec g).drop ((dec g).length - 5) else []
theorem impl_OtherName.says (h : impl_OtherName.k M) (s : List UInt8) (g : Int) (hs : s.length ≤ 1048576) (hg : g ≤ 9223372036854775807) : run M 484 [.c (S s), .c (I g)] [] = some (.c (S (otherName s g)), []) := by
  obtain ⟨h0, k1⟩ := h
  refine run_code (b := impl_OtherName.m) h0 ⟨0, ?_⟩
  unfold otherName
  have e0 : ∀ x y : Int, x ≤ y → (if y < x then y else x) = x := fun x y h => by rw [if_neg (by omega)]
  have a1 : strBin .add (bs s) ⟨#[120]⟩ = some (S (s ++ [120])) := str_add s [120] (by simp; omega)
  have a2 : strBin .add (bs (s.take 6)) ⟨#[120]⟩ = some (S (s.take 6 ++ [120])) := str_add (s.take 6) [120] (by simp; omega)
  by_cases c : 0 < g
  · have h1 := impl_Decimal.says k1 g (by omega) hg
    have hl := dec_len (n := g) (by omega) hg
    rw [if_pos c]
    generalize dec g = d at *
    have a3 : ∀ k, strBin .add (bs (s ++ [120])) (bs (d.drop k)) = some (S (s ++ [120] ++ d.drop k)) := fun k => str_add (s ++ [120]) (d.drop k) (by simp; omega)
    have a4 : ∀ k, strBin .add (bs (s.take 6 ++ [120])) (bs (d.drop k)) = some (S (s.take 6 ++ [120] ++ d.drop k)) := fun k => str_add (s.take 6 ++ [120]) (d.drop k) (by simp; omega)
    have a5 := a3 0
    have a6 := a4 0
    rw [List.drop_zero] at a5 a6
    have ed : d.take d.length = d := List.take_length
    have e1 : IntKind.i64.wrap ((d.length : Int) - 5) = (d.length : Int) - 5 := wrap_i64 (by omega) (by omega)
    by_cases c1 : s.length < 6
    · have c1' : (s.length : Int) < 6 := by omega
      have t1 : s.take 6 = s := List.take_of_length_le (by omega)
      by_cases c2 : d.length ≤ 5
      · have c2' : ¬ (5 : Int) < (d.length : Int) := by omega
        have e2 : d.length - 5 = 0 := by omega
        simp (maxSteps := 1000000) [exB, impl_OtherName.m, impl_OtherName.b, List.range_succ, bs_get, setAt, h1, c, c1, c1', c2', t1, e1, e2, max2, min2, a1, a2, a3, a4, a5, a6, ed]
      · have c2' : (5 : Int) < (d.length : Int) := by omega
        have e3 : (0 : Int) ≤ (d.length : Int) - 5 := by omega
        have e4 : d.length - 5 ≤ d.length := by omega
        have e7 : (5 : Int) ≤ (d.length : Int) := by omega
        have e2 : ((d.length : Int) - 5).toNat = d.length - 5 := by omega
        simp (maxSteps := 1000000) [exB, impl_OtherName.m, impl_OtherName.b, List.range_succ, bs_get, setAt, h1, c, c1, c1', c2', t1, e1, e2, e3, e4, e7, max2, min2, a1, a2, a3, a4, a5, a6, ed]
    · have c1' : ¬ (s.length : Int) < 6 := by omega
      have c6 : 6 ≤ s.length := by omega
      by_cases c2 : d.length ≤ 5
      · have c2' : ¬ (5 : Int) < (d.length : Int) := by omega
        have e2 : d.length - 5 = 0 := by omega
        simp (maxSteps := 1000000) [exB, impl_OtherName.m, impl_OtherName.b, List.range_succ, bs_get, setAt, h1, c, c1, c1', c6, c2', e1, e2, max2, min2, a1, a2, a3, a4, a5, a6, ed]
      · have c2' : (5 : Int) < (d.length : Int) := by omega
        have e3 : (0 : Int) ≤ (d.length : Int) - 5 := by omega
        have e4 : d.length - 5 ≤ d.length := by omega
        have e7 : (5 : Int) ≤ (d.length : Int) := by omega
        have e2 : ((d.length : Int) - 5).toNat = d.length - 5 := by omega
        simp (maxSteps := 1000000) [exB, impl_OtherName.m, impl_OtherName.b, List.range_succ, bs_get, setAt, h1, c, c1, c1', c6, c2', e1, e2, e3, e4, e7, max2, min2, a1, a2, a3, a4, a5, a6, ed]
  · rw [if_neg c]
    by_cases c1 : s.length < 6
    · have c1' : (s.length : Int) < 6 := by omega
      have t1 : s.take 6 = s := List.take_of_length_le (by omega)
      simp (maxSteps := 1000000) [exB, impl_OtherName.m, impl_OtherName.b, List.range_succ, bs_get, setAt, c, c1, c1', t1, min2, a1, a2]
    · have c1' : ¬ (s.length : Int) < 6 := by omega
      have c6 : 6 ≤ s.length := by omega
      simp (maxSteps := 1000000) [exB, impl_OtherName.m, impl_OtherName.b, List.range_succ, bs_get, setAt, c, c1, c1', min2, a1, a2, c6]
theorem spec_OtherName.says (h : spec_OtherName.k M) (s : List UInt8) (g : Int) (hs : s.length ≤ 1048576) (hg : g ≤ 9223372036854775807) : run M 475 [.c (S s), .c (I g)] [] = some (.c (S (otherName s g)), []) := by
  obtain ⟨h0, k1⟩ := h
  refine run_code (b := spec_OtherName.m) h0 ⟨0, ?_⟩
  unfold otherName
  obtain ⟨t, ht, hl6, hcase⟩ : ∃ t, t = s.take 6 ∧ t.length ≤ 6 ∧ ((6 < s.length) ∨ (¬ 6 < s.length ∧ t = s)) := ⟨s.take 6, rfl, by simp; omega, by
    by_cases c : 6 < s.length
    · exact .inl c
    · exact .inr ⟨c, List.take_of_length_le (by omega)⟩⟩
  rw [← ht]
  have a1 : strBin .add (bs t) ⟨#[120]⟩ = some (S (t ++ [120])) := str_add t [120] (by simp; omega)
  have a0 : strBin .add (bs (t ++ [120])) ⟨#[]⟩ = some (S (t ++ [120])) := by
    have := str_add (t ++ [120]) [] (by simp; omega)
    rw [List.append_nil] at this; exact this
  by_cases c : 0 < g
  · have h1 := spec_Decimal.says k1 g (by omega) hg
    have hl := dec_len (n := g) (by omega) hg
    rw [if_pos c]
    generalize dec g = d at *
    have e1 : IntKind.i64.wrap ((d.length : Int) - 5) = (d.length : Int) - 5 := wrap_i64 (by omega) (by omega)
    have a3 : ∀ k, strBin .add (bs (t ++ [120])) (bs (d.drop k)) = some (S (t ++ [120] ++ d.drop k)) := fun k => str_add (t ++ [120]) (d.drop k) (by simp; omega)
    have a5 := a3 0
    rw [List.drop_zero] at a5
    have ed : d.take d.length = d := List.take_length
    rcases hcase with q | ⟨q, q2⟩
    · have q1 : 6 ≤ s.length := by omega
      have q3 : (6 : Int) < (s.length : Int) := by omega
      by_cases c2 : d.length ≤ 5
      · have c2' : ¬ (5 : Int) < (d.length : Int) := by omega
        have c3 : ¬ 5 < d.length := by omega
        have e2 : d.length - 5 = 0 := by omega
        simp (maxSteps := 1000000) [exB, spec_OtherName.m, spec_OtherName.b, List.range_succ, bs_get, setAt, h1, c, q, q1, q3, ← ht, c2', c3, e1, e2, a1, a3, a5, ed]
      · have c2' : (5 : Int) < (d.length : Int) := by omega
        have c3 : 5 < d.length := by omega
        have e2 : ((d.length : Int) - 5).toNat = d.length - 5 := by omega
        have e4 : d.length - 5 ≤ d.length := by omega
        have e7 : (5 : Int) ≤ (d.length : Int) := by omega
        simp (maxSteps := 1000000) [exB, spec_OtherName.m, spec_OtherName.b, List.range_succ, bs_get, setAt, h1, c, q, q1, q3, ← ht, c2', c3, e1, e2, e4, e7, a1, a3, a5, ed]
    · subst q2
      have q3 : ¬ (6 : Int) < (t.length : Int) := by omega
      by_cases c2 : d.length ≤ 5
      · have c2' : ¬ (5 : Int) < (d.length : Int) := by omega
        have c3 : ¬ 5 < d.length := by omega
        have e2 : d.length - 5 = 0 := by omega
        simp (maxSteps := 1000000) [exB, spec_OtherName.m, spec_OtherName.b, List.range_succ, bs_get, setAt, h1, c, q, q3, c2', c3, e1, e2, a1, a3, a5, ed]
      · have c2' : (5 : Int) < (d.length : Int) := by omega
        have c3 : 5 < d.length := by omega
        have e2 : ((d.length : Int) - 5).toNat = d.length - 5 := by omega
        have e4 : d.length - 5 ≤ d.length := by omega
        have e7 : (5 : Int) ≤ (d.length : Int) := by omega
        simp (maxSteps := 1000000) [exB, spec_OtherName.m, spec_OtherName.b, List.range_succ, bs_get, setAt, h1, c, q, q3, c2', c3, e1, e2, e4, e7, a1, a3, a5, ed]
  · rw [if_neg c]
    rcases hcase with q | ⟨q, q2⟩
    · have q1 : 6 ≤ s.length := by omega
      have q3 : (6 : Int) < (s.length : Int) := by omega
      simp (maxSteps := 1000000) [exB, spec_OtherName.m, spec_OtherName.b, List.range_succ, bs_get, setAt, c, q, q1, q3, ← ht, a1, a0]
    · subst q2
      have q3 : ¬ (6 : Int) < (t.length : Int) := by omega
      simp (maxSteps := 1000000) [exB, spec_OtherName.m, spec_OtherName.b, List.range_succ, bs_get, setAt, c, q, q3, a1, a0]
def boxO (l : List Box) (g : Int) : Option Nat := firstN (pAt (fun b : Box => decide (b.gid = g)) l) l.length
def boxIn (l : List Box) (g : Int) : Option Box := l.find? fun b => decide (b.gid = g)
theorem boxO_some {l : List Box} {g : Int} {k : Nat} (h : boxO l g = some k) : ∃ hk : k < l.length, boxIn l g = some l[k] := by
  obtain ⟨h1, h2, h3⟩ := firstN_some h
  refine ⟨h1, ?_⟩
  unfold boxIn
  rw [List.find?_eq_some_iff_getElem]
  rw [pAt_at _ _ _ h1] at h2
  refine ⟨h2, k, h1, rfl, fun j hj => ?_⟩
  have := h3 j hj
  rw [pAt_at _ _ _ (by omega)] at this
  simp only [this, Bool.not_false]
theorem boxO_none {l : List Box} {g : Int} (h : boxO l g = none) : boxIn l g = none := by
  unfold boxIn
  rw [List.find?_eq_none]
  intro b hb
  obtain ⟨j, hj, rfl⟩ := List.getElem_of_mem hb
  have := firstN_none h j hj
  rw [pAt_at _ _ _ hj] at this
  simp only [this]; decide
theorem impl_JoinBoxes_1_1.says (h : impl_JoinBoxes_1_1.k M) (b : Box) (g : Int) : run M 477 [.a (encBox b), .c (.vp [I g] 0)] [] = some (.c (.bool (decide (b.gid = g))), []) := by
  refine run_code (b := impl_JoinBoxes_1_1.m) h ⟨0, ?_⟩
  simp (maxSteps := 1000000) [exB, impl_JoinBoxes_1_1.m, impl_JoinBoxes_1_1.b, List.range_succ, bs_get, setAt, encBox]
theorem impl_JoinBoxes_1.says (h : impl_JoinBoxes_1.k M) (l : List Box) (g : Int) (hl : l.length ≤ 1048576) : run M 476 [.c (boxes l), .c (I g)] [] = some (.c (I (intO (boxO l g))), []) := by
  have h1 := slices_IndexFunc_impl_Box_impl_Box.gen h.2.1 (fun b => impl_JoinBoxes_1_1.says h.2.2 b g) l hl
  refine run_code (b := impl_JoinBoxes_1.m) h.1 ⟨0, ?_⟩
  unfold boxO
  simp only [boxes] at h1 ⊢
  generalize l.map encBox = r at *
  simp (maxSteps := 1000000) [exB, impl_JoinBoxes_1.m, impl_JoinBoxes_1.b, List.range_succ, bs_get, setAt, h1]
theorem impl_JoinBoxes_2.says (h : impl_JoinBoxes_2.k M) (b : Box) (G : List Int) (hG : G.length ≤ 4194304) : run M 479 [.a (encBox b), .c (.vp [ints G] 0)] [] = some (.c (.bool (decide (b.gid ∈ G))), []) := by
  have h1 := slices_Contains_int_int.says h.2 G b.gid (by omega)
  refine run_code (b := impl_JoinBoxes_2.m) h.1 ⟨0, ?_⟩
  simp only [ints] at h1 ⊢
  generalize irow G = g at *
  simp (maxSteps := 1000000) [exB, impl_JoinBoxes_2.m, impl_JoinBoxes_2.b, List.range_succ, bs_get, setAt, h1, encBox]
theorem impl_JoinBoxes_4.says (h : impl_JoinBoxes_4.k M) (y x : Box) : run M 483 [.a (encBox y), .c (.vp (encBox x) 0)] [] = some (.c (.bool (decide (y.name = x.name))), []) := by
  refine run_code (b := impl_JoinBoxes_4.m) h ⟨0, ?_⟩
  simp (maxSteps := 1000000) [exB, impl_JoinBoxes_4.m, impl_JoinBoxes_4.b, List.range_succ, bs_get, setAt, encBox]
theorem slices_ContainsFunc_impl_Box_impl_Box.says (h : slices_ContainsFunc_impl_Box_impl_Box.k M) {f : Nat} {cs : List T} {p : Box → Bool} (hf : ∀ m, run M f [.a (encBox m), .c (.vp cs 0)] [] = some (.c (.bool (p m)), [])) (l : List Box) (hl : l.length ≤ 1048576) :
    run M 482 [.c (boxes l), .c (.fn f [.vp cs 0])] [] = some (.c (.bool (l.any p)), []) := by
  have h1 := slices_IndexFunc_impl_Box_impl_Box.gen h.2 hf l hl
  have e : (decide ((0 : Int) ≤ intO (firstN (pAt p l) l.length))) = l.any p := by
    cases q : firstN (pAt p l) l.length with
    | none =>
      have hn := firstN_none q
      have : l.any p = false := by
        rw [List.any_eq_false]
        intro b hb
        obtain ⟨j, hj, rfl⟩ := List.getElem_of_mem hb
        have := hn j hj
        rw [pAt_at _ _ _ hj] at this
        simp [this]
      rw [this]; decide
    | some k =>
      obtain ⟨h1, h2, _⟩ := firstN_some q
      rw [pAt_at _ _ _ h1] at h2
      have : l.any p = true := List.any_eq_true.2 ⟨_, List.getElem_mem h1, h2⟩
      rw [this]; exact decide_eq_true (Int.natCast_nonneg k)
  refine run_code (b := slices_ContainsFunc_impl_Box_impl_Box.m) h.1 ⟨0, ?_⟩
  rw [← e]
  simp only [boxes] at h1 ⊢
  generalize l.map encBox = r at *
  simp (maxSteps := 1000000) [exB, slices_ContainsFunc_impl_Box_impl_Box.m, slices_ContainsFunc_impl_Box_impl_Box.b, List.range_succ, bs_get, setAt, h1]
def naS (l : List Box) (g : Int) (i : Nat) (x : Nat) : St := { t := [(0, .c (boxes l)), (1, .c (I g)), (5, .c (I i))], o := [], n := x }
theorem spec_l09At.says (h : spec_l09At.k M) (l : List Box) (g : Int) (hl : l.length ≤ 1048576) : run M 474 [.c (boxes l), .c (I g)] [] = some (.c (I (intO (boxO l g))), []) := by
  refine run_code (b := spec_l09At.m) h ⟨l.length + 1, ?_⟩
  obtain ⟨g', hr⟩ := first_loop (f := exC (run M) (l.length + 1) spec_l09At.l0) l.length (pAt (fun b : Box => decide (b.gid = g)) l) (naS l g) atFin atFin_ne
    (fun i hi x c => by
      rw [pAt_at _ _ _ hi] at c
      simp only [decide_eq_false_iff_not] at c
      have e5 : IntKind.i64.wrap ((i : Int) + 1) = (i : Int) + 1 := wrap_i64 (by omega) (by omega)
      simp [naS, spec_l09At.l0, hi, c, encBox, e5])
    (fun i hi x c => by
      rw [pAt_at _ _ _ hi] at c
      simp only [decide_eq_true_eq] at c
      simp [naS, spec_l09At.l0, hi, c, encBox, atFin]
      exact ⟨⟨[], [], _⟩, rfl⟩)
    (fun x => by simp [naS, spec_l09At.l0, atFin])
  unfold boxO
  cases hm : firstN (pAt (fun b : Box => decide (b.gid = g)) l) l.length with
  | none =>
    simp [naS, hm, atFin] at hr
    simp [exB, spec_l09At.m, spec_l09At.b, List.range_succ, hr, intO]
  | some k =>
    simp [naS, hm, atFin] at hr
    simp [exB, spec_l09At.m, spec_l09At.b, List.range_succ, hr, intO]
end Mx

namespace Mx
open Go
variable {M : Nat → Option Body}
structure PlS where
  i : Nat
  rows : List (List T)
  v : Nat
  vc : Nat
  ic : Nat
  q : Int
  n : Nat
theorem PlS.ex {p : PlS → Prop} : (∃ s, p s) ↔ ∃ i rows v vc ic q n, p ⟨i, rows, v, vc, ic, q, n⟩ := ⟨fun ⟨⟨i, rows, v, vc, ic, q, n⟩, h⟩ => ⟨i, rows, v, vc, ic, q, n, h⟩, fun ⟨i, rows, v, vc, ic, q, n, h⟩ => ⟨⟨i, rows, v, vc, ic, q, n⟩, h⟩⟩
end Mx

namespace Mx
attribute [simp] oTmps
open Go
variable {M : Nat → Option Body}
end Mx

namespace Mx
open Go
variable {M : Nat → Option Body}
theorem gidsOk_asc {l : List Int} {most : Int} (h : gidsOk l most = true) : Asc l := by
  simp only [gidsOk, Bool.and_eq_true, decide_eq_true_eq, Option.isNone_iff_eq_none, firstN_isNone] at h
  have hn : ∀ j (hj : j < l.length), ∀ i (hi : i < j), l[i]'(by omega) < l[j] := by
    intro j
    induction j with
    | zero => intro _ i hi; omega
    | succ j ih =>
      intro hj i hi
      have := h.1 (j + 1) hj
      rw [badGid_at hj] at this
      simp at this
      by_cases e : i = j
      · subst e; exact this.2
      · exact Int.lt_trans (ih (by omega) i (by omega)) this.2
  exact List.pairwise_iff_getElem.2 fun i j hi hj hij => hn j hj i hij
theorem boxOk_gone {b : Box} (h : boxOk b = true) : gidsOk b.gone 40 = true := by
  simp only [boxOk, Bool.and_eq_true] at h
  exact h.1.2
end Mx

namespace Mx
open Go
theorem atO_some (l : List Mail) (g : Int) : ∀ d i k, atO l g d i = some k → i ≤ k ∧ ∃ h : k < l.length, (l[k]).gid = g ∧ ∀ j, i ≤ j → (hj : j < k) → (l[j]'(by omega)).gid ≠ g
  | 0, i, k, h => by simp [atO] at h
  | d + 1, i, k, h => by
    simp only [atO] at h
    split at h
    · rename_i hi
      split at h
      · rename_i e
        cases h
        exact ⟨Nat.le_refl _, hi, e, fun j h1 h2 => by omega⟩
      · rename_i e
        obtain ⟨h1, h2, h3, h4⟩ := atO_some l g d (i + 1) k h
        refine ⟨by omega, h2, h3, fun j hj hk => ?_⟩
        by_cases q : j = i
        · subst q; exact e
        · exact h4 j (by omega) hk
    · cases h
theorem atO_none (l : List Mail) (g : Int) : ∀ d i, atO l g d i = none → ∀ j, i ≤ j → j < i + d → (hj : j < l.length) → (l[j]).gid ≠ g
  | 0, i, h, j, h1, h2, hj => by omega
  | d + 1, i, h, j, h1, h2, hj => by
    simp only [atO] at h
    rw [dif_pos (by omega)] at h
    split at h
    · cases h
    · rename_i e
      by_cases q : j = i
      · subst q; exact e
      · exact atO_none l g d (i + 1) h j (by omega) (by omega) hj
theorem mailO_some {l : List Mail} {g : Int} {k : Nat} (h : mailO l g = some k) : ∃ h : k < l.length, (l[k]).gid = g ∧ ∀ j, (hj : j < k) → (l[j]'(by omega)).gid ≠ g := by
  obtain ⟨_, h1, h2, h3⟩ := atO_some l g _ _ _ h
  exact ⟨h1, h2, fun j hj => h3 j (Nat.zero_le _) hj⟩
theorem mailO_none {l : List Mail} {g : Int} : mailO l g = none ↔ ∀ m ∈ l, m.gid ≠ g := by
  constructor
  · intro h m hm
    obtain ⟨j, hj, rfl⟩ := List.getElem_of_mem hm
    exact atO_none l g _ _ h j (Nat.zero_le _) (by omega) hj
  · intro h
    cases q : mailO l g with
    | none => rfl
    | some k =>
      obtain ⟨h1, h2, _⟩ := mailO_some q
      exact (h _ (List.getElem_mem h1) h2).elim
theorem mailO_at {l : List Mail} {k : Nat} (hk : k < l.length) (h : ∀ j, (hj : j < k) → (l[j]'(by omega)).gid ≠ (l[k]).gid) : mailO l (l[k]).gid = some k := by
  cases q : mailO l (l[k]).gid with
  | none => exact (mailO_none.1 q _ (List.getElem_mem hk) rfl).elim
  | some k' =>
    obtain ⟨h1, h2, h3⟩ := mailO_some q
    rcases Nat.lt_trichotomy k' k with c | c | c
    · exact (h k' c h2).elim
    · rw [c]
    · exact (h3 k c rfl).elim
/-- a right box -/
structure Good (b : Box) : Prop where
  gid : 1 ≤ b.gid ∧ b.gid ≤ 9999
  name : nameOk b.name = true
  st : stampOk b.time b.who = true
  next : 1 ≤ b.next ∧ b.next ≤ 10000
  len : b.mails.length ≤ 10
  gone : Asc b.gone
  goneR : ∀ g ∈ b.gone, 1 ≤ g ∧ g ≤ 9999
  goneL : b.gone.length ≤ 40
  mail : ∀ m ∈ b.mails, mailOk m = true ∧ m.uid < b.next ∧ ¬ m.gid ∈ b.gone
  uids : b.mails.Pairwise (fun a c => a.uid < c.uid)
  gids : b.mails.Pairwise (fun a c => a.gid ≠ c.gid)
theorem step_asc {l : List Int} (h : ∀ j (hj : j + 1 < l.length), l[j] < l[j + 1]) : Asc l := by
  have hn : ∀ j (hj : j < l.length), ∀ i (hi : i < j), l[i]'(by omega) < l[j] := by
    intro j
    induction j with
    | zero => intro _ i hi; omega
    | succ j ih =>
      intro hj i hi
      by_cases e : i = j
      · subst e; exact h i hj
      · exact Int.lt_trans (ih (by omega) i (by omega)) (h j hj)
  exact List.pairwise_iff_getElem.2 fun i j hi hj hij => hn j hj i hij
theorem gidsOk_iff {l : List Int} {most : Int} : gidsOk l most = true ↔ Asc l ∧ (∀ g ∈ l, 1 ≤ g ∧ g ≤ 9999) ∧ (l.length : Int) ≤ most := by
  constructor
  · intro h
    exact ⟨gidsOk_asc h, (gidsOk_vars h).2, (gidsOk_vars h).1⟩
  · rintro ⟨h1, h2, h3⟩
    simp only [gidsOk, Bool.and_eq_true, decide_eq_true_eq, Option.isNone_iff_eq_none, firstN_isNone]
    refine ⟨fun j hj => ?_, h3⟩
    rw [badGid_at hj]
    have q1 := h2 _ (List.getElem_mem hj)
    simp only [Bool.or_eq_false_iff, Bool.not_eq_eq_eq_not, Bool.not_false, Bool.and_eq_false_imp, decide_eq_true_eq, decide_eq_false_iff_not]
    refine ⟨inR_iff.2 q1, fun h0 => ?_⟩
    have := List.pairwise_iff_getElem.1 h1 (j - 1) j (by omega) hj (by omega)
    omega
theorem boxOk_iff {b : Box} : boxOk b = true ↔ Good b := by
  constructor
  · intro h
    have hv := boxOk_vars h
    have hg := gidsOk_iff.1 (boxOk_gone h)
    simp only [boxOk, Bool.and_eq_true, decide_eq_true_eq, Option.isNone_iff_eq_none, firstN_isNone] at h
    obtain ⟨⟨⟨⟨⟨⟨h1, h2⟩, h3⟩, h4⟩, h5⟩, h6⟩, h7⟩ := h
    have key : ∀ i (hi : i < b.mails.length), mailOk b.mails[i] = true ∧ b.mails[i].uid < b.next ∧ (0 < i → b.mails[i - 1].uid < b.mails[i].uid) ∧ mailO b.mails b.mails[i].gid = some i ∧ ¬ b.mails[i].gid ∈ b.gone := by
      intro i hi
      have := h7 i hi
      rw [badMail_at hi] at this
      simp only [Bool.or_eq_false_iff, Bool.not_eq_eq_eq_not, Bool.not_false, Bool.and_eq_false_imp, decide_eq_true_eq, decide_eq_false_iff_not] at this
      obtain ⟨⟨⟨⟨q1, q2⟩, q3⟩, q4⟩, q5⟩ := this
      refine ⟨q1, by omega, fun h0 => by have := q3 h0; omega, ?_, q5⟩
      cases e : mailO b.mails b.mails[i].gid with
      | none => rw [e] at q4; simp only [intO] at q4; omega
      | some k => rw [e] at q4; simp only [intO] at q4; rw [show k = i by omega]
    refine ⟨inR_iff.1 h1, h2, h3, inR_iff.1 h4, h5, hg.1, hg.2.1, by omega, fun m hm => ?_, ?_, ?_⟩
    · obtain ⟨j, hj, rfl⟩ := List.getElem_of_mem hm
      have := key j hj
      exact ⟨this.1, this.2.1, this.2.2.2.2⟩
    · have ha : Asc (b.mails.map (·.uid)) := step_asc fun j hj => by
        simp only [List.length_map] at hj
        have := (key (j + 1) hj).2.2.1 (by omega)
        simpa using this
      exact List.pairwise_map.1 ha
    · refine List.pairwise_iff_getElem.2 fun i j hi hj hij e => ?_
      obtain ⟨_, _, h3⟩ := mailO_some (key j hj).2.2.2.1
      exact h3 i hij e
  · intro h
    simp only [boxOk, Bool.and_eq_true, decide_eq_true_eq, Option.isNone_iff_eq_none, firstN_isNone]
    refine ⟨⟨⟨⟨⟨⟨inR_iff.2 h.gid, h.name⟩, h.st⟩, inR_iff.2 h.next⟩, h.len⟩, gidsOk_iff.2 ⟨h.gone, h.goneR, by have := h.goneL; omega⟩⟩, fun i hi => ?_⟩
    rw [badMail_at hi]
    obtain ⟨q1, q2, q3⟩ := h.mail _ (List.getElem_mem hi)
    simp only [Bool.or_eq_false_iff, Bool.not_eq_eq_eq_not, Bool.not_false, Bool.and_eq_false_imp, decide_eq_true_eq, decide_eq_false_iff_not]
    refine ⟨⟨⟨⟨q1, by omega⟩, fun h0 => ?_⟩, ?_⟩, q3⟩
    · have := List.pairwise_iff_getElem.1 h.uids (i - 1) i (by omega) hi (by omega)
      omega
    · rw [mailO_at hi fun j hj => List.pairwise_iff_getElem.1 h.gids j i (by omega) hi hj]
      rfl
end Mx

namespace Mx
open Go
/-- a drawn box after i turns -/
structure Drawn (i : Nat) (b : Box) : Prop where
  good : Good b
  m : ∀ m ∈ b.mails, 10 ≤ m.gid ∧ m.gid ≤ 18
  g : ∀ g ∈ b.gone, 10 ≤ g ∧ g ≤ 18
  nx : b.next ≤ 4 + i
  gl : b.gone.length ≤ i
theorem Drawn.mono {i j : Nat} {b : Box} (h : Drawn i b) (hij : i ≤ j) : Drawn j b := ⟨h.good, h.m, h.g, by have := h.nx; omega, by have := h.gl; omega⟩
theorem Good.inB {b : Box} (h : Good b) : BoxIn b :=
  ⟨by have := h.len; omega, by have := h.goneL; omega, by have := (nameOk_len h.name).2; omega, fun m hm => by have := (mailOk_vars (h.mail m hm).1).2.2.1; omega⟩
end Mx

namespace Mx
open Go
variable {M : Nat → Option Body}
theorem Good.flags {b : Box} (h : Good b) : ∀ m ∈ b.mails, m.flags.length ≤ 4 := fun m hm => by have := (mailOk_vars (h.mail m hm).1).2.2.1; omega
end Mx

namespace Mx
open Go
theorem assignU_gids (need : Int → Bool) : ∀ (l : List Mail) (n : Int), (assignU need n l).1.map (·.gid) = l.map (·.gid)
  | [], n => rfl
  | m :: l, n => by
    simp only [assignU]
    split
    · simp [assignU_gids need l (n + 1)]
    · simp [assignU_gids need l n]
theorem assignU_next (need : Int → Bool) : ∀ (l : List Mail) (n : Int), n ≤ (assignU need n l).2 ∧ (assignU need n l).2 ≤ n + l.length
  | [], n => by simp [assignU]
  | m :: l, n => by
    simp only [assignU, List.length_cons]
    split
    · have := assignU_next need l (n + 1); simp only; omega
    · have := assignU_next need l n; simp only; omega
theorem assignU_mem (need : Int → Bool) : ∀ (l : List Mail) (n : Int) (m : Mail), m ∈ (assignU need n l).1 →
    ∃ m0 ∈ l, m0.gid = m.gid ∧ m.flags = m0.flags ∧ m.text = m0.text ∧ ((need m.gid = true ∧ n ≤ m.uid ∧ m.uid < (assignU need n l).2) ∨ (need m.gid = false ∧ m.uid = m0.uid))
  | [], n, m, h => by simp [assignU] at h
  | a :: l, n, m, h => by
    simp only [assignU] at h ⊢
    split at h
    · rename_i c
      rw [if_pos c]
      rcases List.mem_cons.1 h with rfl | h
      · exact ⟨a, List.mem_cons_self .., rfl, rfl, rfl, .inl ⟨c, by simp only; omega, by have := (assignU_next need l (n + 1)).1; simp only; omega⟩⟩
      · obtain ⟨m0, h1, h2, h3, h4, h5⟩ := assignU_mem need l (n + 1) m h
        exact ⟨m0, List.mem_cons_of_mem _ h1, h2, h3, h4, h5.imp (fun q => ⟨q.1, by omega, q.2.2⟩) id⟩
    · rename_i c
      rw [if_neg c]
      rcases List.mem_cons.1 h with rfl | h
      · exact ⟨m, List.mem_cons_self .., rfl, rfl, rfl, .inr ⟨by simpa using c, rfl⟩⟩
      · obtain ⟨m0, h1, h2, h3, h4, h5⟩ := assignU_mem need l n m h
        exact ⟨m0, List.mem_cons_of_mem _ h1, h2, h3, h4, h5⟩
/-- the Gids that both come to, ascending -/
def stay (a b : Box) : List Int := (joinGone (gids a.mails) (gids b.mails)).filter fun g => !decide (g ∈ joinGone a.gone b.gone)
theorem stay_mem {a b : Box} {g : Int} : g ∈ stay a b ↔ (g ∈ gids a.mails ∨ g ∈ gids b.mails) ∧ ¬ (g ∈ a.gone ∨ g ∈ b.gone) := by
  simp [stay, List.mem_filter, joinGone_mem]
theorem joinedS_perm {a b : Box} (ha : (gids a.mails).Nodup) (hb : (gids b.mails).Nodup) :
    (joinedS a b).1.Perm (assignU (needs a b) (Max.max a.next b.next) ((stay a b).map (joinM a.mails b.mails))).1 := by
  rw [← joined_eq ha hb]
  simp only [joinedI]
  rw [srt_eq ha hb]
  exact sortBy_perm _
theorem joinedS_gids {a b : Box} (ha : (gids a.mails).Nodup) (hb : (gids b.mails).Nodup) : (gids (joinedS a b).1).Perm (stay a b) := by
  have h := (joinedS_perm ha hb).map (fun m : Mail => m.gid)
  rw [assignU_gids] at h
  refine h.trans (List.Perm.of_eq ?_)
  rw [List.map_map]
  have : ∀ l : List Int, (∀ g ∈ l, g ∈ gids a.mails ∨ g ∈ gids b.mails) → l.map ((fun m : Mail => m.gid) ∘ joinM a.mails b.mails) = l := by
    intro l hl
    induction l with
    | nil => rfl
    | cons g l ih =>
      rw [List.map_cons, ih fun g hg => hl g (List.mem_cons_of_mem _ hg)]
      simp only [Function.comp]
      rw [joinM_gid (hl g (List.mem_cons_self ..))]
  exact this _ fun g hg => (stay_mem.1 hg).1
end Mx

namespace Mx
open Go
theorem Good.nd {b : Box} (h : Good b) : (Mx.gids b.mails).Nodup := List.pairwise_map.2 h.gids
end Mx

namespace Mx
open Go
theorem mailO_in_none {l : List Mail} {g : Int} : mailO l g = none ↔ mailIn l g = none := by rw [mailO_none, mailIn_none]
theorem mailO_in_some {l : List Mail} {g : Int} {k : Nat} (h : mailO l g = some k) : ∃ hk : k < l.length, mailIn l g = some l[k] := by
  obtain ⟨h1, h2, h3⟩ := mailO_some h
  refine ⟨h1, ?_⟩
  unfold mailIn
  rw [List.find?_eq_some_iff_getElem]
  exact ⟨by simp [h2], k, h1, rfl, fun j hj => by simpa using h3 j hj⟩
theorem joined_next {a b : Box} (ha : (gids a.mails).Nodup) (hb : (gids b.mails).Nodup) : a.next ≤ (joinedS a b).2 ∧ b.next ≤ (joinedS a b).2 := by
  rw [← joined_eq ha hb]
  simp only [joinedI]
  have := (assignU_next (needs a b) (sortBy (·.gid) ((allM a.mails b.mails).filter fun m => !decide (m.gid ∈ joinGone a.gone b.gone))) (Max.max a.next b.next)).1
  omega
end Mx

namespace Mx
open Go
variable {M : Nat → Option Body}
theorem impl_joined_1.says (h : impl_joined_1.k M) (m : Mail) (G : List Int) (hG : G.length ≤ 4194304) : run M 454 [.a (encMail m), .c (.vp [ints G] 0)] [] = some (.c (.bool (decide (m.gid ∈ G))), []) := by
  have h1 := slices_Contains_int_int.says h.2 G m.gid (by omega)
  refine run_code (b := impl_joined_1.m) h.1 ⟨0, ?_⟩
  simp only [ints] at h1 ⊢
  generalize irow G = g at *
  simp (maxSteps := 1000000) [exB, impl_joined_1.m, impl_joined_1.b, List.range_succ, bs_get, setAt, h1, encMail]
/-- this side's first list -/
def firstM (a b : List Mail) : List Mail := a.map fun m => match mailIn b m.gid with | some y => joinMail m y | none => m
theorem firstM_len (a b : List Mail) : (firstM a b).length = a.length := by simp [firstM]
def jdO (u2 u3 : Nat) (a b : Box) (v : Nat) (rows : List (List T)) : List (Nat × Ob) := [(2, ⟨u2, 7, true, true, [encBox a]⟩), (3, ⟨u3, 7, true, true, [encBox b]⟩), (16, ⟨v, 4, true, false, rows⟩)]
structure JdS where
  i : Nat
  v : Nat
  n : Nat
def jaS (u2 u3 : Nat) (a b : Box) (s : JdS) : St := { t := [(2, .c (.ptr 2 u2 0 0)), (3, .c (.ptr 3 u3 0 0)), (6, .c (.row 16 s.v 0 s.i)), (18, .c (mails a.mails)), (19, .c (I a.mails.length)), (20, .c (I s.i))], o := jdO u2 u3 a b s.v (((firstM a.mails b.mails).take s.i).map encMail), n := s.n }
def jaE (u2 u3 : Nat) (a b : Box) (s : JdS) : St := { t := [(2, .c (.ptr 2 u2 0 0)), (3, .c (.ptr 3 u3 0 0)), (6, .c (.row 16 s.v 0 s.i)), (18, .c (mails a.mails)), (19, .c (I a.mails.length)), (20, .c (I s.i)), (21, .c (.bool false))], o := jdO u2 u3 a b s.v (((firstM a.mails b.mails).take s.i).map encMail), n := s.n }
structure JdK (M : Nat → Option Body) : Prop where
  holds : impl_Holds.k M
  keeps : impl_KeepsUid.k M
  gone : impl_JoinGone.k M
  at_ : impl_MailAt.k M
  copy : impl_copyMail.k M
  join : impl_JoinMail.k M
  del : slices_DeleteFunc_impl_Mail_impl_Mail.k M
  c1 : impl_joined_1.k M
  sort : slices_SortStableFunc_impl_Mail_impl_Mail.k M
  c2 : impl_joined_2.k M
  c3 : impl_joined_3.k M
set_option maxHeartbeats 1000000 in
theorem ja_turn (K : JdK M) (k u2 u3 : Nat) (a b : Box) (ha : BoxIn a) (hb : BoxIn b) (s : JdS) (hs : s.i < a.mails.length) :
    ∃ v' n', exC (run M) k impl_joined.l0 (jaS u2 u3 a b s) = some (.normal, jaS u2 u3 a b ⟨s.i + 1, v', n'⟩) := by
  obtain ⟨i, v, n⟩ := s
  simp only at hs
  have hm := ha.m
  have h1 := impl_MailAt.says K.at_ b a.mails[i].gid hb.m
  have e5 : IntKind.i64.wrap ((i : Int) + 1) = (i : Int) + 1 := wrap_i64 (by omega) (by omega)
  have e6 : i + 1 ≤ 4294967296 := by omega
  have hl := firstM_len a.mails b.mails
  have e7 : (((firstM a.mails b.mails).take i).map encMail).length = i := by simp [hl]; omega
  have e9 : (a.mails.map encMail).length = a.mails.length := by simp
  have e8 : ((firstM a.mails b.mails).take (i + 1)).map encMail = ((firstM a.mails b.mails).take i).map encMail ++ [encMail (firstM a.mails b.mails)[i]] := by
    rw [take_snoc _ _ (by rw [hl]; exact hs), List.map_append]; rfl
  have a1 : ∀ hh, (a.mails.map encMail)[i]'hh = encMail a.mails[i] := by intro hh; simp
  cases hq : mailO b.mails a.mails[i].gid with
  | none =>
    rw [hq] at h1
    have h2 := impl_copyMail.says K.copy a.mails[i] (ha.f _ (List.getElem_mem hs))
    have ef : (firstM a.mails b.mails)[i]'(by rw [hl]; exact hs) = a.mails[i] := by
      simp only [firstM, List.getElem_map, mailO_in_none.1 hq]
    rw [ef] at e8
    simp only [jaS, jdO, e8]
    simp only [encBox, mails, ints, intO, encMail, encMailO, regs] at h1 h2 a1 ⊢
    generalize List.map encMail ((firstM a.mails b.mails).take i) = rr at *
    generalize a.mails.map encMail = ra at *
    generalize b.mails.map encMail = rb at *
    generalize irow a.gone = ga at *
    generalize irow b.gone = gb at *
    generalize a.mails[i].flags.map encReg = rf at *
    simp (maxSteps := 1000000) [impl_joined.l0, List.range_succ, bs_get, setAt, h1, h2, hs, e5, e6, e7, e9, a1, List.take_of_length_le]
  | some q =>
    rw [hq] at h1
    obtain ⟨hq1, hq2⟩ := mailO_in_some hq
    have hf1 := ha.f _ (List.getElem_mem hs)
    have h3 := impl_JoinMail.says K.join a.mails[i] b.mails[q] hf1 (hb.f _ (List.getElem_mem hq1))
    have h2 := impl_copyMail.says K.copy (joinMail a.mails[i] b.mails[q]) (Nat.le_trans (joinMail_flags _ _) hf1)
    have ef : (firstM a.mails b.mails)[i]'(by rw [hl]; exact hs) = joinMail a.mails[i] b.mails[q] := by
      simp only [firstM, List.getElem_map, hq2]
    rw [ef] at e8
    have e10 : (b.mails.map encMail).length = b.mails.length := by simp
    have a2 : ∀ hh, (b.mails.map encMail)[q]'hh = encMail b.mails[q] := by intro hh; simp
    simp only [jaS, jdO, e8]
    simp only [encBox, mails, ints, intO, encMail, encMailO, regs] at h1 h2 h3 a1 a2 ⊢
    generalize List.map encMail ((firstM a.mails b.mails).take i) = rr at *
    generalize a.mails.map encMail = ra at *
    generalize b.mails.map encMail = rb at *
    generalize irow a.gone = ga at *
    generalize irow b.gone = gb at *
    generalize a.mails[i].flags.map encReg = rf at *
    generalize b.mails[q].flags.map encReg = rg at *
    generalize (joinMail a.mails[i] b.mails[q]).flags.map encReg = rj at *
    simp (maxSteps := 1000000) [impl_joined.l0, List.range_succ, bs_get, setAt, h1, h2, h3, hs, hq1, e5, e6, e7, e9, e10, a1, a2, List.take_of_length_le]
theorem ja_end (k u2 u3 : Nat) (a b : Box) (s : JdS) (hs : ¬ s.i < a.mails.length) :
    ∃ n', exC (run M) k impl_joined.l0 (jaS u2 u3 a b s) = some (.exit 0, jaE u2 u3 a b ⟨s.i, s.v, n'⟩) := by
  obtain ⟨i, v, n⟩ := s
  simp only at hs
  simp only [jaS, jaE, jdO]
  generalize List.map encMail ((firstM a.mails b.mails).take i) = rr at *
  simp only [encBox, mails, ints]
  generalize a.mails.map encMail = ra at *
  generalize b.mails.map encMail = rb at *
  simp (maxSteps := 1000000) [impl_joined.l0, List.range_succ, bs_get, setAt, hs]
end Mx

namespace Mx
open Go
variable {M : Nat → Option Body}
theorem holds_isNone (a : Box) (g : Int) : holds a g = !(mailIn a.mails g).isNone := by
  unfold holds
  cases q : mailO a.mails g with
  | none => rw [mailO_in_none.1 q]; rfl
  | some k =>
    obtain ⟨_, h⟩ := mailO_in_some q
    rw [h]
    exact decide_eq_true (Int.natCast_nonneg k)
def upTo (a b : List Mail) (i : Nat) : List Mail := firstM a b ++ (b.take i).filter fun m => (mailIn a m.gid).isNone
theorem upTo_all (a b : List Mail) : upTo a b b.length = allM a b := by
  unfold upTo allM firstM
  rw [List.take_length]
  all_goals (congr 1)
theorem upTo_zero (a b : List Mail) : upTo a b 0 = firstM a b := by simp [upTo]
theorem upTo_len (a b : List Mail) (i : Nat) (hi : i ≤ b.length) : (upTo a b i).length ≤ a.length + i := by
  have := List.length_filter_le (fun m : Mail => (mailIn a m.gid).isNone) (b.take i)
  simp only [upTo, List.length_append, firstM_len]
  simp at this; omega
def jbS (u2 u3 : Nat) (a b : Box) (s : JdS) : St := { t := [(2, .c (.ptr 2 u2 0 0)), (3, .c (.ptr 3 u3 0 0)), (6, .c (.row 16 s.v 0 (upTo a.mails b.mails s.i).length)), (44, .c (mails b.mails)), (45, .c (I b.mails.length)), (46, .c (I s.i))], o := jdO u2 u3 a b s.v ((upTo a.mails b.mails s.i).map encMail), n := s.n }
def jbE (u2 u3 : Nat) (a b : Box) (s : JdS) : St := { t := [(2, .c (.ptr 2 u2 0 0)), (3, .c (.ptr 3 u3 0 0)), (6, .c (.row 16 s.v 0 (upTo a.mails b.mails s.i).length)), (44, .c (mails b.mails)), (45, .c (I b.mails.length)), (46, .c (I s.i)), (47, .c (.bool false))], o := jdO u2 u3 a b s.v ((upTo a.mails b.mails s.i).map encMail), n := s.n }
set_option maxHeartbeats 1000000 in
theorem jb_turn (K : JdK M) (k u2 u3 : Nat) (a b : Box) (ha : BoxIn a) (hb : BoxIn b) (s : JdS) (hs : s.i < b.mails.length) :
    ∃ v' n', exC (run M) k impl_joined.l1 (jbS u2 u3 a b s) = some (.normal, jbS u2 u3 a b ⟨s.i + 1, v', n'⟩) := by
  obtain ⟨i, v, n⟩ := s
  simp only at hs
  have hma := ha.m
  have hm := hb.m
  have h1 := impl_Holds.says K.holds a b.mails[i].gid ha.m
  have e5 : IntKind.i64.wrap ((i : Int) + 1) = (i : Int) + 1 := wrap_i64 (by omega) (by omega)
  have hl := upTo_len a.mails b.mails i (by omega)
  have e7 : ((upTo a.mails b.mails i).map encMail).length = (upTo a.mails b.mails i).length := by simp
  have e6 : (upTo a.mails b.mails i).length + 1 ≤ 4294967296 := by omega
  have e9 : (b.mails.map encMail).length = b.mails.length := by simp
  have a1 : ∀ hh, (b.mails.map encMail)[i]'hh = encMail b.mails[i] := by intro hh; simp
  have eu : upTo a.mails b.mails (i + 1) = upTo a.mails b.mails i ++ if holds a b.mails[i].gid = true then [] else [b.mails[i]] := by
    simp only [upTo, take_snoc _ _ hs, List.filter_append, List.append_assoc, holds_isNone]
    cases q : (mailIn a.mails b.mails[i].gid).isNone <;> simp [q]
  cases hq : holds a b.mails[i].gid with
  | true =>
    rw [hq] at h1 eu
    simp only [if_true, List.append_nil] at eu
    simp only [jbS, jdO, eu]
    simp only [encBox, mails, ints, encMail, regs] at h1 a1 ⊢
    generalize List.map encMail (upTo a.mails b.mails i) = rr at *
    generalize (upTo a.mails b.mails i).length = nr at *
    generalize a.mails.map encMail = ra at *
    generalize b.mails.map encMail = rb at *
    generalize irow a.gone = ga at *
    generalize irow b.gone = gb at *
    generalize b.mails[i].flags.map encReg = rf at *
    simp (maxSteps := 1000000) [impl_joined.l1, List.range_succ, bs_get, setAt, h1, hs, e5, e6, e7, e9, a1, List.take_of_length_le]
  | false =>
    rw [hq] at h1 eu
    simp only [Bool.false_eq_true, if_false] at eu
    have h2 := impl_copyMail.says K.copy b.mails[i] (hb.f _ (List.getElem_mem hs))
    simp only [jbS, jdO, eu, List.map_append, List.map_cons, List.map_nil, List.length_append, List.length_singleton]
    simp only [encBox, mails, ints, encMail, encMailO, regs] at h1 h2 a1 ⊢
    generalize List.map encMail (upTo a.mails b.mails i) = rr at *
    generalize (upTo a.mails b.mails i).length = nr at *
    generalize a.mails.map encMail = ra at *
    generalize b.mails.map encMail = rb at *
    generalize irow a.gone = ga at *
    generalize irow b.gone = gb at *
    generalize b.mails[i].flags.map encReg = rf at *
    simp (maxSteps := 1000000) [impl_joined.l1, List.range_succ, bs_get, setAt, h1, h2, hs, e5, e6, e7, e9, a1, List.take_of_length_le]
theorem jb_end (k u2 u3 : Nat) (a b : Box) (s : JdS) (hs : ¬ s.i < b.mails.length) :
    ∃ n', exC (run M) k impl_joined.l1 (jbS u2 u3 a b s) = some (.exit 2, jbE u2 u3 a b ⟨s.i, s.v, n'⟩) := by
  obtain ⟨i, v, n⟩ := s
  simp only at hs
  simp only [jbS, jbE, jdO]
  generalize List.map encMail (upTo a.mails b.mails i) = rr at *
  simp only [encBox, mails, ints]
  generalize a.mails.map encMail = ra at *
  generalize b.mails.map encMail = rb at *
  simp (maxSteps := 1000000) [impl_joined.l1, List.range_succ, bs_get, setAt, hs]
/-- the first i have their numbers -/
def asgTo (need : Int → Bool) (nx : Int) (l : List Mail) (i : Nat) : List Mail := (assignU need nx (l.take i)).1 ++ l.drop i
def asgN (need : Int → Bool) (nx : Int) (l : List Mail) (i : Nat) : Int := (assignU need nx (l.take i)).2
theorem assignU_snoc (need : Int → Bool) (m : Mail) : ∀ (l : List Mail) (n : Int), assignU need n (l ++ [m]) = if need m.gid = true then ((assignU need n l).1 ++ [{ m with uid := (assignU need n l).2 }], (assignU need n l).2 + 1) else ((assignU need n l).1 ++ [m], (assignU need n l).2)
  | [], n => by simp [assignU]
  | a :: l, n => by
    simp only [List.cons_append, assignU, assignU_snoc need m l]
    by_cases c : need a.gid = true <;> by_cases c2 : need m.gid = true <;> simp [c, c2]
theorem assignU_len (need : Int → Bool) : ∀ (l : List Mail) (n : Int), (assignU need n l).1.length = l.length
  | [], n => rfl
  | a :: l, n => by
    simp only [assignU]
    split <;> simp [assignU_len need l]
theorem asgTo_len (need : Int → Bool) (nx : Int) (l : List Mail) (i : Nat) : (asgTo need nx l i).length = l.length := by
  simp only [asgTo, List.length_append, assignU_len, List.length_take, List.length_drop]; omega
theorem asgTo_at (need : Int → Bool) (nx : Int) (l : List Mail) (i : Nat) (h : i < l.length) : (asgTo need nx l i)[i]'(by rw [asgTo_len]; exact h) = l[i] := by
  have e : (assignU need nx (l.take i)).1.length = i := by rw [assignU_len]; simp; omega
  simp only [asgTo]
  rw [List.getElem_append_right (by omega)]
  simp [e]
theorem asgTo_succ (need : Int → Bool) (nx : Int) (l : List Mail) (i : Nat) (h : i < l.length) :
    asgTo need nx l (i + 1) = if need l[i].gid = true then (asgTo need nx l i).set i { l[i] with uid := asgN need nx l i } else asgTo need nx l i := by
  have e : (assignU need nx (l.take i)).1.length = i := by rw [assignU_len]; simp; omega
  have hd : l.drop i = l[i] :: l.drop (i + 1) := List.drop_eq_getElem_cons h
  simp only [asgTo, asgN, take_snoc l i h, assignU_snoc]
  by_cases c : need l[i].gid = true
  · rw [if_pos c, if_pos c, List.set_append_right _ _ (by omega), e, Nat.sub_self]
    simp
    rw [hd]; rfl
  · rw [if_neg c, if_neg c, hd]
    simp
theorem asgN_succ (need : Int → Bool) (nx : Int) (l : List Mail) (i : Nat) (h : i < l.length) : asgN need nx l (i + 1) = if need l[i].gid = true then asgN need nx l i + 1 else asgN need nx l i := by
  simp only [asgN, take_snoc l i h, assignU_snoc]
  split <;> rfl
theorem asgN_range (need : Int → Bool) (nx : Int) (l : List Mail) (i : Nat) : nx ≤ asgN need nx l i ∧ asgN need nx l i ≤ nx + l.length := by
  have h := assignU_next need (l.take i) nx
  simp only [asgN]
  have : (l.take i).length ≤ l.length := by simp; omega
  omega
structure JcS where
  i : Nat
  v : Nat
  n : Nat
def jcS (u2 u3 : Nat) (a b : Box) (need : Int → Bool) (nx : Int) (l : List Mail) (Z : List (List T)) (s : JcS) : St := { t := [(2, .c (.ptr 2 u2 0 0)), (3, .c (.ptr 3 u3 0 0)), (6, .c (.row 16 s.v 0 l.length)), (13, .c (I (asgN need nx l s.i))), (76, .c (.row 16 s.v 0 l.length)), (77, .c (I l.length)), (78, .c (I s.i))], o := jdO u2 u3 a b s.v ((asgTo need nx l s.i).map encMail ++ Z), n := s.n }
def jcE (u2 u3 : Nat) (a b : Box) (need : Int → Bool) (nx : Int) (l : List Mail) (Z : List (List T)) (s : JcS) : St := { t := [(2, .c (.ptr 2 u2 0 0)), (3, .c (.ptr 3 u3 0 0)), (6, .c (.row 16 s.v 0 l.length)), (13, .c (I (asgN need nx l s.i))), (76, .c (.row 16 s.v 0 l.length)), (77, .c (I l.length)), (78, .c (I s.i)), (79, .c (.bool false))], o := jdO u2 u3 a b s.v ((asgTo need nx l s.i).map encMail ++ Z), n := s.n }
set_option maxHeartbeats 4000000 in
theorem jc_turn (K : JdK M) (k u2 u3 : Nat) (a b : Box) (ha : BoxIn a) (hb : BoxIn b) (nx : Int) (hnx : -1000000000 ≤ nx ∧ nx ≤ 4611686018427387904) (l : List Mail) (hl : l.length ≤ 1048576) (Z : List (List T)) (s : JcS) (hs : s.i < l.length) :
    ∃ n', exC (run M) k impl_joined.l2 (jcS u2 u3 a b (needs a b) nx l Z s) = some (.normal, jcS u2 u3 a b (needs a b) nx l Z ⟨s.i + 1, s.v, n'⟩) := by
  obtain ⟨i, v, n⟩ := s
  simp only at hs
  have h1 := impl_Holds.says K.holds a l[i].gid ha.m
  have h2 := impl_Holds.says K.holds b l[i].gid hb.m
  have h3 := impl_KeepsUid.says K.keeps a b l[i].gid ha.m hb.m
  have h4 := impl_KeepsUid.says K.keeps b a l[i].gid hb.m ha.m
  have e5 : IntKind.i64.wrap ((i : Int) + 1) = (i : Int) + 1 := wrap_i64 (by omega) (by omega)
  have hr := asgN_range (needs a b) nx l i
  have e6 : IntKind.i64.wrap (asgN (needs a b) nx l i + 1) = asgN (needs a b) nx l i + 1 := wrap_i64 (by omega) (by omega)
  have e7 : i < ((asgTo (needs a b) nx l i).map encMail ++ Z).length := by simp [asgTo_len]; omega
  have a1 : ∀ hh, ((asgTo (needs a b) nx l i).map encMail ++ Z)[i]'hh = encMail l[i] := by
    intro hh
    rw [List.getElem_append_left (by simp [asgTo_len]; omega)]
    simp only [List.getElem_map, asgTo_at _ _ _ _ hs]
  have t1 := asgTo_succ (needs a b) nx l i hs
  have t2 := asgN_succ (needs a b) nx l i hs
  have t3 : ((asgTo (needs a b) nx l (i + 1)).map encMail ++ Z) = if needs a b l[i].gid = true then ((asgTo (needs a b) nx l i).map encMail ++ Z).set i (encMail { l[i] with uid := asgN (needs a b) nx l i }) else (asgTo (needs a b) nx l i).map encMail ++ Z := by
    rw [t1]
    split
    · rw [List.map_set, List.set_append_left _ _ (by simp [asgTo_len]; omega)]
    · rfl
  simp only [jcS, jdO, t2, t3]
  have hn : needs a b l[i].gid = (holds a l[i].gid && !keepsUid a b l[i].gid || holds b l[i].gid && !keepsUid b a l[i].gid) := rfl
  rw [hn]
  clear hn t1 t2 t3
  generalize (asgTo (needs a b) nx l i).map encMail ++ Z = rr at *
  generalize asgN (needs a b) nx l i = z at *
  generalize holds a l[i].gid = p1 at *
  generalize holds b l[i].gid = p2 at *
  generalize keepsUid a b l[i].gid = p3 at *
  generalize keepsUid b a l[i].gid = p4 at *
  simp only [encBox, mails, ints, encMail, regs] at h1 h2 h3 h4 a1 ⊢
  generalize a.mails.map encMail = ra at *
  generalize b.mails.map encMail = rb at *
  generalize irow a.gone = ga at *
  generalize irow b.gone = gb at *
  generalize l[i] = m at *
  generalize m.flags.map encReg = rf at *
  generalize l.length = N at *
  cases p1 <;> cases p2 <;> cases p3 <;> cases p4 <;> simp (maxSteps := 1000000) [impl_joined.l2, List.range_succ, bs_get, setAt, h1, h2, h3, h4, hs, e5, e6, e7, a1, List.take_of_length_le]
theorem jc_end (k u2 u3 : Nat) (a b : Box) (need : Int → Bool) (nx : Int) (l : List Mail) (Z : List (List T)) (s : JcS) (hs : ¬ s.i < l.length) :
    ∃ n', exC (run M) k impl_joined.l2 (jcS u2 u3 a b need nx l Z s) = some (.exit 4, jcE u2 u3 a b need nx l Z ⟨s.i, s.v, n'⟩) := by
  obtain ⟨i, v, n⟩ := s
  simp only at hs
  simp only [jcS, jcE, jdO]
  generalize (asgTo need nx l i).map encMail ++ Z = rr at *
  generalize asgN need nx l i = z at *
  simp only [encBox, mails, ints]
  generalize a.mails.map encMail = ra at *
  generalize b.mails.map encMail = rb at *
  simp (maxSteps := 1000000) [impl_joined.l2, List.range_succ, bs_get, setAt, hs]
end Mx

namespace Mx
open Go
variable {M : Nat → Option Body}
theorem asgTo_zero (need : Int → Bool) (nx : Int) (l : List Mail) : asgTo need nx l 0 = l := by simp [asgTo, assignU]
theorem asgN_zero (need : Int → Bool) (nx : Int) (l : List Mail) : asgN need nx l 0 = nx := by simp [asgN, assignU]
theorem asgTo_all (need : Int → Bool) (nx : Int) (l : List Mail) : asgTo need nx l l.length = (assignU need nx l).1 := by simp [asgTo]
theorem asgN_all (need : Int → Bool) (nx : Int) (l : List Mail) : asgN need nx l l.length = (assignU need nx l).2 := by simp [asgN]
theorem firstM_all (a b : List Mail) : (firstM a b).take a.length = firstM a b := List.take_of_length_le (by rw [firstM_len]; exact Nat.le_refl _)
theorem ja_loop (K : JdK M) (k u2 u3 : Nat) (a b : Box) (ha : BoxIn a) (hb : BoxIn b) (v n : Nat) (hk : a.mails.length < k) :
    ∃ v' n', loopN (exC (run M) k impl_joined.l0) k (jaS u2 u3 a b ⟨0, v, n⟩) = some (.exit 0, jaE u2 u3 a b ⟨a.mails.length, v', n'⟩) := by
  obtain ⟨r, hr, ⟨⟨i, v', n'⟩, rfl, hi⟩⟩ := loop_ex (f := exC (run M) k impl_joined.l0) (jaS u2 u3 a b) (fun s => s.i ≤ a.mails.length) (fun s => a.mails.length - s.i) (fun r => ∃ s', r = (.exit 0, jaE u2 u3 a b s') ∧ s'.i = a.mails.length)
    (fun s hs => by
      by_cases c : s.i < a.mails.length
      · left
        obtain ⟨v', n', hh⟩ := ja_turn K k u2 u3 a b ha hb s c
        exact ⟨_, hh, by simp only; omega, by simp only; omega⟩
      · right
        obtain ⟨n', hh⟩ := ja_end (M := M) k u2 u3 a b s c
        exact ⟨_, hh, by simp, _, rfl, by simp only; omega⟩) k ⟨0, v, n⟩ (by simp) (by simp only; omega)
  simp only at hi
  subst hi
  exact ⟨v', n', hr⟩
theorem jb_loop (K : JdK M) (k u2 u3 : Nat) (a b : Box) (ha : BoxIn a) (hb : BoxIn b) (v n : Nat) (hk : b.mails.length < k) :
    ∃ v' n', loopN (exC (run M) k impl_joined.l1) k (jbS u2 u3 a b ⟨0, v, n⟩) = some (.exit 2, jbE u2 u3 a b ⟨b.mails.length, v', n'⟩) := by
  obtain ⟨r, hr, ⟨⟨i, v', n'⟩, rfl, hi⟩⟩ := loop_ex (f := exC (run M) k impl_joined.l1) (jbS u2 u3 a b) (fun s => s.i ≤ b.mails.length) (fun s => b.mails.length - s.i) (fun r => ∃ s', r = (.exit 2, jbE u2 u3 a b s') ∧ s'.i = b.mails.length)
    (fun s hs => by
      by_cases c : s.i < b.mails.length
      · left
        obtain ⟨v', n', hh⟩ := jb_turn K k u2 u3 a b ha hb s c
        exact ⟨_, hh, by simp only; omega, by simp only; omega⟩
      · right
        obtain ⟨n', hh⟩ := jb_end (M := M) k u2 u3 a b s c
        exact ⟨_, hh, by simp, _, rfl, by simp only; omega⟩) k ⟨0, v, n⟩ (by simp) (by simp only; omega)
  simp only at hi
  subst hi
  exact ⟨v', n', hr⟩
theorem jc_loop (K : JdK M) (k u2 u3 : Nat) (a b : Box) (ha : BoxIn a) (hb : BoxIn b) (nx : Int) (hnx : -1000000000 ≤ nx ∧ nx ≤ 4611686018427387904) (l : List Mail) (hl : l.length ≤ 1048576) (Z : List (List T)) (v n : Nat) (hk : l.length < k) :
    ∃ n', loopN (exC (run M) k impl_joined.l2) k (jcS u2 u3 a b (needs a b) nx l Z ⟨0, v, n⟩) = some (.exit 4, jcE u2 u3 a b (needs a b) nx l Z ⟨l.length, v, n'⟩) := by
  obtain ⟨r, hr, ⟨⟨i, v', n'⟩, rfl, hi, hv⟩⟩ := loop_ex (f := exC (run M) k impl_joined.l2) (jcS u2 u3 a b (needs a b) nx l Z) (fun s => s.i ≤ l.length ∧ s.v = v) (fun s => l.length - s.i) (fun r => ∃ s', r = (.exit 4, jcE u2 u3 a b (needs a b) nx l Z s') ∧ s'.i = l.length ∧ s'.v = v)
    (fun s hs => by
      by_cases c : s.i < l.length
      · left
        obtain ⟨n', hh⟩ := jc_turn K k u2 u3 a b ha hb nx hnx l hl Z s c
        exact ⟨_, hh, ⟨by simp only; omega, hs.2⟩, by simp only; omega⟩
      · right
        obtain ⟨n', hh⟩ := jc_end (M := M) k u2 u3 a b (needs a b) nx l Z s c
        have := hs.1
        exact ⟨_, hh, by simp, _, rfl, by simp only; omega, hs.2⟩) k ⟨0, v, n⟩ ⟨by simp, rfl⟩ (by simp only; omega)
  simp only at hi hv
  subst hi
  subst hv
  exact ⟨n', hr⟩
theorem gput_le (l : List Int) (x : Int) : (gput l x).length ≤ l.length + 1 := by
  have h : ∀ l : List Int, (l.filter (fun y => decide (y < x))).length + (l.filter (fun y => decide (x < y))).length ≤ l.length := by
    intro l
    induction l with
    | nil => simp
    | cons a l ih =>
      simp only [List.filter_cons]
      by_cases c1 : a < x
      · have c2 : ¬ x < a := by omega
        simp [c1, c2]; omega
      · by_cases c2 : x < a
        · simp [c1, c2]; omega
        · simp [c1, c2]; omega
  have := h l
  simp only [gput, List.length_append, List.length_singleton]; omega
theorem joinGone_le (a b : List Int) : (joinGone a b).length ≤ a.length + b.length := by
  have key : ∀ (l acc : List Int), (l.foldl gadd acc).length ≤ l.length + acc.length := by
    intro l
    induction l with
    | nil => intro acc; simp
    | cons x l ih =>
      intro acc
      have h1 := ih (gadd acc x)
      have h2 : (gadd acc x).length ≤ acc.length + 1 := by
        unfold gadd
        split
        · omega
        · exact gput_le acc x
      simp only [List.foldl_cons, List.length_cons]; omega
  have := key (a ++ b) []
  simp only [List.length_append, List.length_nil] at this
  exact this
theorem max_int (a b : Int) : Max.max a b = if a < b then b else a := by split <;> omega
set_option maxHeartbeats 4000000 in
theorem impl_joined.says (h : impl_joined.k M) (a b : Box) (ha : BoxIn a) (hb : BoxIn b) (hall : (allM a.mails b.mails).length ≤ 20) (hna : -1000000000 ≤ a.next ∧ a.next ≤ 4611686018427387904) (hnb : -1000000000 ≤ b.next ∧ b.next ≤ 4611686018427387904) :
    run M 437 [.a (encBox a), .a (encBox b)] [] = some (.tup [.c (.sl true 4 ((joinedI a b).1.map encMail)), .c (I (joinedI a b).2)], []) := by
  obtain ⟨h0, kh, kk, kg, ka, kc, kj, kd, k1, ks, k2, k3⟩ := h
  have K : JdK M := ⟨kh, kk, kg, ka, kc, kj, kd, k1, ks, k2, k3⟩
  have hma := ha.m
  have hmb := hb.m
  refine run_code (b := impl_joined.m) h0 ⟨a.mails.length + b.mails.length + 21, ?_⟩
  generalize hk : a.mails.length + b.mails.length + 21 = k
  obtain ⟨v1, n1, r1⟩ := ja_loop K k 2000000 2000016 a b ha hb 2000064 2000160 (by omega)
  obtain ⟨v2, n2, r2⟩ := jb_loop K k 2000000 2000016 a b ha hb v1 (n1 + 64) (by omega)
  have h4 := impl_JoinGone.says kg a.gone b.gone ha.g hb.g
  have hG : (joinGone a.gone b.gone).length ≤ 4194304 := by
    have := joinGone_le a.gone b.gone
    have := ha.g
    have := hb.g
    omega
  have hc1 := fun m => impl_joined_1.says k1 m (joinGone a.gone b.gone) hG
  have h5 := slices_DeleteFunc_impl_Mail_impl_Mail.says kd hc1 (allM a.mails b.mails) (by omega)
  have hkl : ((allM a.mails b.mails).filter fun m => !decide (m.gid ∈ joinGone a.gone b.gone)).length ≤ (allM a.mails b.mails).length := List.length_filter_le _ _
  have h6 := slices_SortStableFunc_impl_Mail_impl_Mail.says ks (k := fun m : Mail => m.gid) (impl_joined_2.says k2) ((allM a.mails b.mails).filter fun m => !decide (m.gid ∈ joinGone a.gone b.gone)) (List.replicate ((allM a.mails b.mails).length - ((allM a.mails b.mails).filter fun m => !decide (m.gid ∈ joinGone a.gone b.gone)).length) mzero) (by omega)
  have hj : joinedI a b = (sortBy (·.uid) (assignU (needs a b) (Max.max a.next b.next) (sortBy (·.gid) ((allM a.mails b.mails).filter fun m => !decide (m.gid ∈ joinGone a.gone b.gone)))).1, (assignU (needs a b) (Max.max a.next b.next) (sortBy (·.gid) ((allM a.mails b.mails).filter fun m => !decide (m.gid ∈ joinGone a.gone b.gone)))).2) := rfl
  rw [hj]
  have el0 : ((allM a.mails b.mails).map encMail).length = (allM a.mails b.mails).length := by simp
  have eF : firstM a.mails b.mails = firstM a.mails b.mails := rfl
  have hfl := firstM_len a.mails b.mails
  simp only [jaS, jaE, jdO, List.take_zero, List.map_nil, firstM_all] at r1
  simp only [jbS, jbE, jdO, upTo_zero, upTo_all, hfl] at r2
  simp only [mRow, List.append_nil] at h5 h6
  generalize hz : List.replicate ((allM a.mails b.mails).length - ((allM a.mails b.mails).filter fun m => !decide (m.gid ∈ joinGone a.gone b.gone)).length) mzero = Z at *
  generalize hl1 : ((allM a.mails b.mails).filter fun m => !decide (m.gid ∈ joinGone a.gone b.gone)) = l1 at *
  have hl2 : (sortBy (fun m : Mail => m.gid) l1).length = l1.length := sortBy_len _
  generalize hs2 : sortBy (fun m : Mail => m.gid) l1 = l2 at *
  obtain ⟨n3, r3⟩ := jc_loop K k 2000000 2000016 a b ha hb (Max.max a.next b.next) (by omega) l2 (by omega) Z v2 (n2 + 112 + 64 + 32 + 96 + 48) (by omega)
  have h7 := slices_SortStableFunc_impl_Mail_impl_Mail.says ks (k := fun m : Mail => m.uid) (impl_joined_3.says k3) (assignU (needs a b) (Max.max a.next b.next) l2).1 Z (by rw [assignU_len]; omega)
  rw [assignU_len] at h7
  simp only [jcS, jcE, jdO, asgTo_zero, asgN_zero, asgTo_all, asgN_all] at r3
  simp only [mRow] at h7
  have el1 : l1.length ≤ (l1.map encMail ++ Z).length := by simp
  have el2 : l2.length ≤ (l2.map encMail ++ Z).length := by simp
  have el3 : l2.length ≤ ((assignU (needs a b) (Max.max a.next b.next) l2).1.map encMail ++ Z).length := by simp [assignU_len]
  have el4 : l2.length ≤ ((sortBy (fun m : Mail => m.uid) (assignU (needs a b) (Max.max a.next b.next) l2).1).map encMail ++ Z).length := by simp [sortBy_len, assignU_len]
  have el5 : (((sortBy (fun m : Mail => m.uid) (assignU (needs a b) (Max.max a.next b.next) l2).1).map encMail ++ Z).take l2.length) = (sortBy (fun m : Mail => m.uid) (assignU (needs a b) (Max.max a.next b.next) l2).1).map encMail := by
    rw [List.take_append_of_le_length (by simp [sortBy_len, assignU_len])]
    exact List.take_of_length_le (by simp [sortBy_len, assignU_len])
  have em := max_int a.next b.next
  have ea : (a.mails.map encMail).length = a.mails.length := by simp
  have eb : (b.mails.map encMail).length = b.mails.length := by simp
  have ez : ((0 : Nat) : Int) = 0 := rfl
  simp only [ez] at r1 r2 r3
  generalize (assignU (needs a b) (Max.max a.next b.next) l2).2 = nz at *
  simp only
  generalize (sortBy (fun m : Mail => m.uid) (assignU (needs a b) (Max.max a.next b.next) l2).1).map encMail = R4 at *
  generalize R4 ++ Z = R4Z at *
  generalize (assignU (needs a b) (Max.max a.next b.next) l2).1.map encMail ++ Z = R3Z at *
  generalize hmx : Max.max a.next b.next = mx at *
  generalize l2.map encMail ++ Z = R2Z at *
  generalize l1.map encMail ++ Z = R1Z at *
  rw [hl2] at *
  clear hl1 hs2 hz hj hc1 K
  generalize (allM a.mails b.mails).map encMail = R0 at *
  generalize (allM a.mails b.mails).length = N0 at *
  generalize (firstM a.mails b.mails).map encMail = RF at *
  generalize l1.length = N1 at *
  simp only [encBox, mails, ints] at *
  generalize a.mails.map encMail = ra at *
  generalize b.mails.map encMail = rb at *
  generalize irow (joinGone a.gone b.gone) = gj at *
  generalize irow a.gone = ga at *
  generalize irow b.gone = gb at *
  by_cases c : a.next < b.next
  · rw [if_pos c] at em
    subst em
    simp (maxSteps := 1000000) [exB, impl_joined.m, impl_joined.b, List.range_succ, bs_get, setAt, r1, r2, r3, h4, h5, h6, h7, c, ea, eb, el0, el1, el2, el3, el4, el5, List.take_of_length_le]
  · rw [if_neg c] at em
    subst em
    simp (maxSteps := 1000000) [exB, impl_joined.m, impl_joined.b, List.range_succ, bs_get, setAt, r1, r2, r3, h4, h5, h6, h7, c, ea, eb, el0, el1, el2, el3, el4, el5, List.take_of_length_le]
end Mx
