/-
  What more of the functions compute, each by a small evaluation; no condition beyond what each says.
-/
import Derived.Test.YtpocolhpkkkmeaaGreatMxJnd
set_option linter.unusedSimpArgs false
set_option linter.unusedVariables false
namespace Mx
open Go
variable {M : Nat → Option Body}
def laS (l : List Int) (g : Int) (i : Nat) (x : Nat) : St := { t := [(0, .c (ints l)), (1, .c (I g)), (5, .c (I i))], o := [], n := x }
def laE (l : List Int) (g : Int) (x : Nat) : St := { t := [(0, .c (ints l)), (1, .c (I g)), (5, .c (I l.length)), (9, .c (.bool false))], o := [], n := x }
theorem laws_in.says (h : laws_in.k M) (l : List Int) (g : Int) (hl : l.length ≤ 4611686018427387904) : run M 402 [.c (ints l), .c (I g)] [] = some (.c (.bool (decide (g ∈ l))), []) := by
  refine run_code (b := laws_in.m) h ⟨l.length + 1, ?_⟩
  obtain ⟨g', hr⟩ := early_loop (f := exC (run M) (l.length + 1) laws_in.l0) l.length (isAt l g) (laS l g) 4 (.bool true) 0 (laE l g)
    (fun i hi x c => by
      have e5 : IntKind.i64.wrap ((i : Int) + 1) = (i : Int) + 1 := wrap_i64 (by omega) (by omega)
      rw [isAt_at hi] at c
      simp at c
      simp (maxSteps := 1000000) (disch := (first | omega | (simp; done) | (simp; omega))) [laws_in.l0, List.range_succ, bs_get, List.take_of_length_le, setAt, str_add, laS, hi, e5, c])
    (fun i hi x c => by
      rw [isAt_at hi] at c
      simp at c
      simp (maxSteps := 1000000) (disch := (first | omega | (simp; done) | (simp; omega))) [laws_in.l0, List.range_succ, bs_get, List.take_of_length_le, setAt, str_add, laS, hi, c])
    (fun x => by simp (maxSteps := 1000000) (disch := (first | omega | (simp; done) | (simp; omega))) [laws_in.l0, List.range_succ, bs_get, List.take_of_length_le, setAt, str_add, laS, laE])
  have hm := isAt_mem l g
  rw [← hm]
  cases q : firstN (isAt l g) l.length with
  | none =>
    simp [laS, laE, q, fin1] at hr
    simp (maxSteps := 1000000) (disch := (first | omega | (simp; done) | (simp; omega))) [exB, laws_in.m, laws_in.b, List.range_succ, bs_get, List.take_of_length_le, setAt, str_add, hr]
  | some k =>
    simp [laS, q, fin1] at hr
    simp (maxSteps := 1000000) (disch := (first | omega | (simp; done) | (simp; omega))) [exB, laws_in.m, laws_in.b, List.range_succ, bs_get, List.take_of_length_le, setAt, str_add, hr]
def cnt (p : Mail → Bool) (l : List Mail) (i : Nat) : Nat := ((l.take i).filter p).length
theorem cnt_zero (p : Mail → Bool) (l : List Mail) : cnt p l 0 = 0 := by simp [cnt]
theorem cnt_all (p : Mail → Bool) (l : List Mail) : cnt p l l.length = (l.filter p).length := by simp [cnt]
theorem cnt_succ (p : Mail → Bool) (l : List Mail) (i : Nat) (h : i < l.length) : cnt p l (i + 1) = if p l[i] = true then cnt p l i + 1 else cnt p l i := by
  simp only [cnt, take_snoc l i h, List.filter_append, List.length_append]
  cases q : p l[i] <;> simp [q]
theorem cnt_le (p : Mail → Bool) (l : List Mail) (i : Nat) : cnt p l i ≤ l.length := by
  have h1 := List.length_filter_le p (l.take i)
  have h2 : (l.take i).length ≤ l.length := by simp; omega
  simp only [cnt]; omega
def mkO (u3 u4 u5 : Nat) (a b j : Box) : List (Nat × Ob) := [(3, ⟨u3, 7, true, true, [encBox a]⟩), (4, ⟨u4, 7, true, true, [encBox b]⟩), (5, ⟨u5, 7, true, true, [encBox j]⟩)]
def mkS (R : List (List T)) (u3 u4 u5 : Nat) (a b j : Box) (p : Mail → Bool) (i : Nat) (x : Nat) : St := { t := [(0, .c (.sl false 1 R)), (3, .c (.ptr 3 u3 0 0)), (4, .c (.ptr 4 u4 0 0)), (5, .c (.ptr 5 u5 0 0)), (6, .c (I (cnt p a.mails i))), (7, .c (I i))], o := mkO u3 u4 u5 a b j, n := x }
def mkE (R : List (List T)) (u3 u4 u5 : Nat) (a b j : Box) (p : Mail → Bool) (x : Nat) : St := { t := [(0, .c (.sl false 1 R)), (3, .c (.ptr 3 u3 0 0)), (4, .c (.ptr 4 u4 0 0)), (5, .c (.ptr 5 u5 0 0)), (6, .c (I (cnt p a.mails a.mails.length))), (7, .c (I a.mails.length)), (29, .c (.bool false))], o := mkO u3 u4 u5 a b j, n := x }
theorem mk_loop (kh : impl_Holds.k M) (ki : laws_in.k M) (R : List (List T)) (k u3 u4 u5 : Nat) (a b j : Box) (ha : a.mails.length ≤ 1048576) (hj : j.mails.length ≤ 1048576) (hb : b.gone.length ≤ 1048576) (hk : a.mails.length < k)
    (hh : ∀ m ∈ a.mails, holds j m.gid = !decide (m.gid ∈ b.gone)) (x : Nat) :
    ∃ y, loopN (exC (run M) k laws_FnMailsKept.l0) k (mkS R u3 u4 u5 a b j (fun m => holds j m.gid) 0 x) = some (.exit 0, mkE R u3 u4 u5 a b j (fun m => holds j m.gid) y) := by
  obtain ⟨g, hr⟩ := count_loop (f := exC (run M) k laws_FnMailsKept.l0) a.mails.length (mkS R u3 u4 u5 a b j (fun m => holds j m.gid)) 0 (mkE R u3 u4 u5 a b j (fun m => holds j m.gid))
    (fun i hi x => by
      have h1 := impl_Holds.says kh j a.mails[i].gid hj
      have h2 := laws_in.says ki b.gone a.mails[i].gid (by omega)
      have h3 := hh _ (List.getElem_mem hi)
      have e5 : IntKind.i64.wrap ((i : Int) + 1) = (i : Int) + 1 := wrap_i64 (by omega) (by omega)
      have hc := cnt_le (fun m => holds j m.gid) a.mails i
      have e6 : IntKind.i64.wrap ((cnt (fun m => holds j m.gid) a.mails i : Int) + 1) = (cnt (fun m => holds j m.gid) a.mails i : Int) + 1 := wrap_i64 (by omega) (by omega)
      have ea : (a.mails.map encMail).length = a.mails.length := by simp
      have a1 : ∀ hh, (a.mails.map encMail)[i]'hh = encMail a.mails[i] := by intro hh; simp
      simp only [mkS, mkO, cnt_succ _ _ _ hi]
      generalize cnt (fun m => holds j m.gid) a.mails i = c at *
      rw [h3] at h1 ⊢
      generalize decide (a.mails[i].gid ∈ b.gone) = w at *
      simp only [encBox, mails, ints, encMail, regs] at h1 h2 a1 ⊢
      generalize a.mails.map encMail = ra at *
      generalize b.mails.map encMail = rb at *
      generalize j.mails.map encMail = rj at *
      generalize irow a.gone = ga at *
      generalize irow b.gone = gb at *
      generalize irow j.gone = gj at *
      cases w <;> simp (maxSteps := 1000000) [laws_FnMailsKept.l0, List.range_succ, bs_get, setAt, hi, h1, h2, e5, e6, ea, a1, List.take_of_length_le])
    (fun x => by
      have ea : (a.mails.map encMail).length = a.mails.length := by simp
      simp only [mkS, mkE, mkO]
      generalize cnt (fun m => holds j m.gid) a.mails a.mails.length = c at *
      simp only [encBox, mails, ints]
      generalize a.mails.map encMail = ra at *
      generalize b.mails.map encMail = rb at *
      generalize j.mails.map encMail = rj at *
      simp (maxSteps := 1000000) [laws_FnMailsKept.l0, List.range_succ, bs_get, setAt, ea])
  exact ⟨_, loopN_le (hr x) (by omega)⟩
def mqS (R : List (List T)) (u3 u4 u5 : Nat) (a b j : Box) (n0 : Nat) (p : Mail → Bool) (i : Nat) (x : Nat) : St := { t := [(0, .c (.sl false 1 R)), (3, .c (.ptr 3 u3 0 0)), (4, .c (.ptr 4 u4 0 0)), (5, .c (.ptr 5 u5 0 0)), (6, .c (I (n0 + cnt p b.mails i : Nat))), (9, .c (I i))], o := mkO u3 u4 u5 a b j, n := x }
def mqE (R : List (List T)) (u3 u4 u5 : Nat) (a b j : Box) (n0 : Nat) (p : Mail → Bool) (x : Nat) : St := { t := [(0, .c (.sl false 1 R)), (3, .c (.ptr 3 u3 0 0)), (4, .c (.ptr 4 u4 0 0)), (5, .c (.ptr 5 u5 0 0)), (6, .c (I (n0 + cnt p b.mails b.mails.length : Nat))), (9, .c (I b.mails.length)), (55, .c (.bool false))], o := mkO u3 u4 u5 a b j, n := x }
theorem mq_loop (kh : impl_Holds.k M) (ki : laws_in.k M) (R : List (List T)) (k u3 u4 u5 : Nat) (a b j : Box) (n0 : Nat) (hn0 : n0 ≤ 1048576) (ha : a.mails.length ≤ 1048576) (hb : b.mails.length ≤ 1048576) (hj : j.mails.length ≤ 1048576) (hg : a.gone.length ≤ 1048576) (hk : b.mails.length < k)
    (hh : ∀ m ∈ b.mails, holds j m.gid = !decide (m.gid ∈ a.gone)) (x : Nat) :
    ∃ y, loopN (exC (run M) k laws_FnMailsKept.l1) k (mqS R u3 u4 u5 a b j n0 (fun m => holds j m.gid && !holds a m.gid) 0 x) = some (.exit 2, mqE R u3 u4 u5 a b j n0 (fun m => holds j m.gid && !holds a m.gid) y) := by
  obtain ⟨g, hr⟩ := count_loop (f := exC (run M) k laws_FnMailsKept.l1) b.mails.length (mqS R u3 u4 u5 a b j n0 (fun m => holds j m.gid && !holds a m.gid)) 2 (mqE R u3 u4 u5 a b j n0 (fun m => holds j m.gid && !holds a m.gid))
    (fun i hi x => by
      have h1 := impl_Holds.says kh j b.mails[i].gid hj
      have h4 := impl_Holds.says kh a b.mails[i].gid ha
      have h2 := laws_in.says ki a.gone b.mails[i].gid (by omega)
      have h3 := hh _ (List.getElem_mem hi)
      have e5 : IntKind.i64.wrap ((i : Int) + 1) = (i : Int) + 1 := wrap_i64 (by omega) (by omega)
      have hc := cnt_le (fun m => holds j m.gid && !holds a m.gid) b.mails i
      have e6 : IntKind.i64.wrap (((n0 + cnt (fun m => holds j m.gid && !holds a m.gid) b.mails i : Nat) : Int) + 1) = ((n0 + cnt (fun m => holds j m.gid && !holds a m.gid) b.mails i : Nat) : Int) + 1 := wrap_i64 (by omega) (by omega)
      have ea : (b.mails.map encMail).length = b.mails.length := by simp
      have a1 : ∀ hh, (b.mails.map encMail)[i]'hh = encMail b.mails[i] := by intro hh; simp
      have e7 : n0 + cnt (fun m => holds j m.gid && !holds a m.gid) b.mails (i + 1) = if (holds j b.mails[i].gid && !holds a b.mails[i].gid) = true then n0 + cnt (fun m => holds j m.gid && !holds a m.gid) b.mails i + 1 else n0 + cnt (fun m => holds j m.gid && !holds a m.gid) b.mails i := by
        rw [cnt_succ _ _ _ hi]; split <;> omega
      simp only [mqS, mkO, e7]
      generalize n0 + cnt (fun m => holds j m.gid && !holds a m.gid) b.mails i = c at *
      clear e7
      rw [h3] at h1 ⊢
      generalize decide (b.mails[i].gid ∈ a.gone) = w at *
      generalize holds a b.mails[i].gid = z at *
      simp only [encBox, mails, ints, encMail, regs] at h1 h2 h4 a1 ⊢
      generalize a.mails.map encMail = ra at *
      generalize b.mails.map encMail = rb at *
      generalize j.mails.map encMail = rj at *
      generalize irow a.gone = ga at *
      generalize irow b.gone = gb at *
      generalize irow j.gone = gj at *
      cases w <;> cases z <;> simp (maxSteps := 1000000) [laws_FnMailsKept.l1, List.range_succ, bs_get, setAt, hi, h1, h2, h4, e5, e6, ea, a1, List.take_of_length_le])
    (fun x => by
      have ea : (b.mails.map encMail).length = b.mails.length := by simp
      simp only [mqS, mqE, mkO]
      generalize n0 + cnt (fun m => holds j m.gid && !holds a m.gid) b.mails b.mails.length = c at *
      simp only [encBox, mails, ints]
      generalize a.mails.map encMail = ra at *
      generalize b.mails.map encMail = rb at *
      generalize j.mails.map encMail = rj at *
      simp (maxSteps := 1000000) [laws_FnMailsKept.l1, List.range_succ, bs_get, setAt, ea])
  exact ⟨_, loopN_le (hr x) (by omega)⟩
theorem holds_dec (b : Box) (g : Int) : holds b g = decide (g ∈ gids b.mails) := by
  rw [Bool.eq_iff_iff, holds_iff]; simp
theorem joinBox_parts {a b : Box} (h : a.gid = b.gid) : (joinBox a b).mails = (joinedS a b).1 ∧ (joinBox a b).gone = joinGone a.gone b.gone := by
  unfold joinBox; rw [if_pos h]; exact ⟨rfl, rfl⟩
set_option maxHeartbeats 8000000 in
set_option maxRecDepth 100000 in
theorem laws_FnMailsKept.says (h : laws_FnMailsKept.k M) (R : List (List T)) (hl : R.length ≤ 9223372036854775807) (hr : ∀ (i : Nat) (r : List T), R[i]? = some r → ∃ n : Int, r = [.int .u8 n]) :
    run M 392 [.c (.sl false 1 R)] [] = some (.c (.bool true), []) := by
  obtain ⟨h0, kh, kbig, kg2, kg, ksame, kints, kd, kj, kin, kd2, kd3, kj2⟩ := h
  have hbig := laws_big.says kbig R hl
  by_cases cb : 1048576 < R.length
  · rw [decide_eq_true cb] at hbig
    refine run_code (b := laws_FnMailsKept.m) h0 ⟨0, ?_⟩
    simp (maxSteps := 1000000) [exB, laws_FnMailsKept.m, laws_FnMailsKept.b, List.range_succ, bs_get, setAt, hbig]
  rw [decide_eq_false cb] at hbig
  have hR : Bytes R := ⟨by omega, hr⟩
  obtain ⟨a, b, hA, hB, h1⟩ := spec_DrawTwoBoxes.says kd hR
  obtain ⟨x, y, hx, hy, h2⟩ := spec_DrawJoinGone.says kd2 hR
  obtain ⟨u, v, hU, h3⟩ := spec_DrawJoinBox.says kd3 hR
  have hg : a.gid = b.gid := by rw [hA.gid, hB.gid]
  have H := hA.good.joins hB.good
  have hJI := joinBox_in H
  obtain ⟨pm, pg⟩ := joinBox_parts hg
  have h4 := impl_JoinBox.says kj a b H
  have h5 := impl_JoinGone.says kg b.gone a.gone H.ib.g H.ia.g
  rw [joinGone_comm b.gone a.gone, ← pg] at h5
  have h6 := laws_sameInts.self kints (joinBox a b).gone hJI.g
  have h7 := impl_JoinGone.says kg x y (by omega) (by omega)
  have h8 := spec_JoinGone.says kg2 x y (by omega) (by omega)
  have h9 := laws_sameInts.self kints (joinGone x y) (by have := joinGone_le x y; omega)
  have h10 := impl_JoinBox.says kj u v hU
  have h11 := spec_JoinBox.says kj2 u v hU
  have h12 := laws_sameBox.self ksame _ (joinBox_in hU)
  have hka : ∀ m ∈ a.mails, holds (joinBox a b) m.gid = !decide (m.gid ∈ b.gone) := fun m hm => by
    rw [holds_dec, pm, Bool.eq_iff_iff]
    have hn := (hA.good.mail m hm).2.2
    have := joined_holds hA.good.nd hB.good.nd (g := m.gid)
    simp only [decide_eq_true_eq, Bool.not_eq_true', decide_eq_false_iff_not, this]
    exact ⟨fun q z => q.2 (.inr z), fun q => ⟨.inl (List.mem_map_of_mem hm), fun z => z.elim hn q⟩⟩
  have hkb : ∀ m ∈ b.mails, holds (joinBox a b) m.gid = !decide (m.gid ∈ a.gone) := fun m hm => by
    rw [holds_dec, pm, Bool.eq_iff_iff]
    have hn := (hB.good.mail m hm).2.2
    have := joined_holds hA.good.nd hB.good.nd (g := m.gid)
    simp only [decide_eq_true_eq, Bool.not_eq_true', decide_eq_false_iff_not, this]
    exact ⟨fun q z => q.2 (.inl z), fun q => ⟨.inr (List.mem_map_of_mem hm), fun z => z.elim q hn⟩⟩
  have hcount : cnt (fun m => holds (joinBox a b) m.gid) a.mails a.mails.length + cnt (fun m => holds (joinBox a b) m.gid && !holds a m.gid) b.mails b.mails.length = (joinBox a b).mails.length := by
    have e := kept_count hA.good.nd hB.good.nd
    rw [← pm] at e
    rw [cnt_all, cnt_all]
    simp only [holds_dec]
    exact e
  obtain ⟨n1, r1⟩ := mk_loop kh kin R (a.mails.length + b.mails.length + 1) 2000128 2000144 2000240 a b (joinBox a b) H.ia.m hJI.m H.ib.g (by omega) hka 2000304
  have hc1 := cnt_le (fun m => holds (joinBox a b) m.gid) a.mails a.mails.length
  obtain ⟨n2, r2⟩ := mq_loop kh kin R (a.mails.length + b.mails.length + 1) 2000128 2000144 2000240 a b (joinBox a b) (cnt (fun m => holds (joinBox a b) m.gid) a.mails a.mails.length) (by have := H.ia.m; omega) H.ia.m H.ib.m hJI.m H.ia.g (by omega) hkb (n1 + 16)
  refine run_code (b := laws_FnMailsKept.m) h0 ⟨a.mails.length + b.mails.length + 1, ?_⟩
  generalize a.mails.length + b.mails.length + 1 = K at *
  simp only [mkS, mkE, mkO, cnt_zero] at r1
  simp only [mqS, mqE, mkO, cnt_zero, hcount, Nat.add_zero] at r2
  have ez : ((0 : Nat) : Int) = 0 := rfl
  simp only [ez] at r1 r2
  generalize cnt (fun m => holds (joinBox a b) m.gid) a.mails a.mails.length = c1 at *
  have la : (a.mails.map encMail).length = a.mails.length := by simp
  have la2 := irow_length a.gone
  have lb : (b.mails.map encMail).length = b.mails.length := by simp
  have lb2 := irow_length b.gone
  have lj : ((joinBox a b).mails.map encMail).length = (joinBox a b).mails.length := by simp
  have lj2 := irow_length (joinBox a b).gone
  have lx := irow_length x
  have ly := irow_length y
  have lu : (u.mails.map encMail).length = u.mails.length := by simp
  have lu2 := irow_length u.gone
  have lv : (v.mails.map encMail).length = v.mails.length := by simp
  have lv2 := irow_length v.gone
  have lk : ((joinBox u v).mails.map encMail).length = (joinBox u v).mails.length := by simp
  have lk2 := irow_length (joinBox u v).gone
  clear hka hkb hcount hJI H hU hA hB pm pg
  generalize joinBox u v = k at *
  generalize joinBox a b = j at *
  simp only [encBox, encBoxO, mails, ints] at *
  generalize irow (joinGone x y) = gxy at *
  generalize irow x = gx at *
  generalize irow y = gy at *
  generalize a.mails.map encMail = ra at *
  generalize irow a.gone = ga at *
  generalize b.mails.map encMail = rb at *
  generalize irow b.gone = gb at *
  generalize j.mails.map encMail = rj at *
  generalize irow j.gone = gj at *
  generalize k.mails.map encMail = rk at *
  generalize irow k.gone = gk at *
  generalize u.mails.map encMail = ru at *
  generalize irow u.gone = gu at *
  generalize v.mails.map encMail = rv at *
  generalize irow v.gone = gv at *
  simp (maxSteps := 1000000) [exB, laws_FnMailsKept.m, laws_FnMailsKept.b, List.range_succ, bs_get, setAt, hbig, h1, h2, h3, h4, h5, h6, h7, h8, h9, h10, h11, h12, r1, r2, la, la2, lb, lb2, lj, lj2, lx, ly, lu, lu2, lv, lv2, lk, lk2, List.take_of_length_le]
theorem laws_FnMailsKept.row (h : laws_FnMailsKept.k M) {as : List V} (ha : HasVs [.cell (.sl [.int .u8])] as) : run M 392 as [] = some (.c (.bool true), []) := by
  cases ha with | cons h0 ha =>
  cases ha
  cases h0 with | cell h0 =>
  cases h0 with | sl _ rows hl h1 h2 =>
  refine laws_FnMailsKept.says h rows (Nat.le_trans hl (by decide)) fun i r hr => ?_
  have hlen := h1 i r hr
  match r, hlen with
  | [a], _ =>
    obtain ⟨n, rfl⟩ := has_int (h2 i 0 [a] (.int .u8) a hr rfl rfl)
    exact ⟨n, rfl⟩
end Mx

namespace Mx
open Go
variable {M : Nat → Option Body}
/-- in a right box a number below the next one means one mail -/
theorem uid_mean {c : Box} (hc : Good c) {u : Int} {g : Int} (h1 : ∀ z ∈ c.mails, z.gid = g → z.uid = u) (h2 : (∀ z ∈ c.mails, z.gid ≠ g) → c.next ≤ u) : ∀ x ∈ c.mails, x.uid = u → x.gid = g := by
  intro x hx e
  apply Classical.byContradiction
  intro hne
  have hlt := (hc.mail x hx).2.1
  by_cases q : ∃ z ∈ c.mails, z.gid = g
  · obtain ⟨z, hz, ez⟩ := q
    have eu := h1 z hz ez
    obtain ⟨i, hi, rfl⟩ := List.getElem_of_mem hx
    obtain ⟨k, hk, rfl⟩ := List.getElem_of_mem hz
    rcases Nat.lt_trichotomy i k with w | w | w
    · have := List.pairwise_iff_getElem.1 hc.uids i k hi hk w; omega
    · subst w; exact hne ez
    · have := List.pairwise_iff_getElem.1 hc.uids k i hk hi w; omega
  · have := h2 fun z hz e => q ⟨z, hz, e⟩
    omega
def ukO (u3 u4 u5 u7 : Nat) (a b j : Box) (m : Mail) : List (Nat × Ob) := [(3, ⟨u3, 7, true, true, [encBox a]⟩), (4, ⟨u4, 7, true, true, [encBox b]⟩), (5, ⟨u5, 7, true, true, [encBox j]⟩), (7, ⟨u7, 4, true, true, [encMail m]⟩)]
def uaS (R : List (List T)) (u3 u4 u5 u7 : Nat) (a b j : Box) (m : Mail) (i0 i : Nat) (x : Nat) : St := { t := [(0, .c (.sl false 1 R)), (3, .c (.ptr 3 u3 0 0)), (4, .c (.ptr 4 u4 0 0)), (5, .c (.ptr 5 u5 0 0)), (6, .c (I i0)), (7, .c (.ptr 7 u7 0 0)), (8, .c (I i))], o := ukO u3 u4 u5 u7 a b j m, n := x }
def uaE (R : List (List T)) (u3 u4 u5 u7 : Nat) (a b j : Box) (m : Mail) (i0 : Nat) (x : Nat) : St := { t := [(0, .c (.sl false 1 R)), (3, .c (.ptr 3 u3 0 0)), (4, .c (.ptr 4 u4 0 0)), (5, .c (.ptr 5 u5 0 0)), (6, .c (I i0)), (7, .c (.ptr 7 u7 0 0)), (8, .c (I a.mails.length)), (53, .c (.bool false))], o := ukO u3 u4 u5 u7 a b j m, n := x }
theorem ua_loop (R : List (List T)) (k u3 u4 u5 u7 : Nat) (a b j : Box) (m : Mail) (i0 : Nat) (ha : a.mails.length ≤ 1048576) (hk : a.mails.length < k) (hm : ∀ x ∈ a.mails, x.uid = m.uid → x.gid = m.gid) (x : Nat) :
    ∃ y, loopN (exC (run M) k laws_FnUidsKept.l1) k (uaS R u3 u4 u5 u7 a b j m i0 0 x) = some (.exit 2, uaE R u3 u4 u5 u7 a b j m i0 y) := by
  obtain ⟨g, hr⟩ := count_loop (f := exC (run M) k laws_FnUidsKept.l1) a.mails.length (uaS R u3 u4 u5 u7 a b j m i0) 2 (uaE R u3 u4 u5 u7 a b j m i0)
    (fun i hi x => by
      have h1 := hm _ (List.getElem_mem hi)
      have e5 : IntKind.i64.wrap ((i : Int) + 1) = (i : Int) + 1 := wrap_i64 (by omega) (by omega)
      have ea : (a.mails.map encMail).length = a.mails.length := by simp
      have a1 : ∀ hh, (a.mails.map encMail)[i]'hh = encMail a.mails[i] := by intro hh; simp
      simp only [uaS, ukO]
      simp only [encBox, mails, ints, encMail, regs] at a1 ⊢
      generalize a.mails.map encMail = ra at *
      generalize b.mails.map encMail = rb at *
      generalize j.mails.map encMail = rj at *
      generalize irow a.gone = ga at *
      generalize irow b.gone = gb at *
      generalize irow j.gone = gj at *
      generalize a.mails[i].flags.map encReg = rf at *
      generalize m.flags.map encReg = rm at *
      by_cases c : a.mails[i].uid = m.uid
      · have c2 := h1 c
        simp (maxSteps := 1000000) [laws_FnUidsKept.l1, List.range_succ, bs_get, setAt, hi, c, c2, e5, ea, a1]
      · simp (maxSteps := 1000000) [laws_FnUidsKept.l1, List.range_succ, bs_get, setAt, hi, c, e5, ea, a1])
    (fun x => by
      have ea : (a.mails.map encMail).length = a.mails.length := by simp
      simp only [uaS, uaE, ukO]
      simp only [encBox, mails, ints]
      generalize a.mails.map encMail = ra at *
      generalize b.mails.map encMail = rb at *
      generalize j.mails.map encMail = rj at *
      simp (maxSteps := 1000000) [laws_FnUidsKept.l1, List.range_succ, bs_get, setAt, ea])
  exact ⟨_, loopN_le (hr x) (by omega)⟩
def ubS (R : List (List T)) (u3 u4 u5 u7 : Nat) (a b j : Box) (m : Mail) (i0 i : Nat) (x : Nat) : St := { t := [(0, .c (.sl false 1 R)), (3, .c (.ptr 3 u3 0 0)), (4, .c (.ptr 4 u4 0 0)), (5, .c (.ptr 5 u5 0 0)), (6, .c (I i0)), (7, .c (.ptr 7 u7 0 0)), (9, .c (I i))], o := ukO u3 u4 u5 u7 a b j m, n := x }
def ubE (R : List (List T)) (u3 u4 u5 u7 : Nat) (a b j : Box) (m : Mail) (i0 : Nat) (x : Nat) : St := { t := [(0, .c (.sl false 1 R)), (3, .c (.ptr 3 u3 0 0)), (4, .c (.ptr 4 u4 0 0)), (5, .c (.ptr 5 u5 0 0)), (6, .c (I i0)), (7, .c (.ptr 7 u7 0 0)), (9, .c (I b.mails.length)), (80, .c (.bool false))], o := ukO u3 u4 u5 u7 a b j m, n := x }
theorem ub_loop (R : List (List T)) (k u3 u4 u5 u7 : Nat) (a b j : Box) (m : Mail) (i0 : Nat) (hb : b.mails.length ≤ 1048576) (hk : b.mails.length < k) (hm : ∀ x ∈ b.mails, x.uid = m.uid → x.gid = m.gid) (x : Nat) :
    ∃ y, loopN (exC (run M) k laws_FnUidsKept.l2) k (ubS R u3 u4 u5 u7 a b j m i0 0 x) = some (.exit 4, ubE R u3 u4 u5 u7 a b j m i0 y) := by
  obtain ⟨g, hr⟩ := count_loop (f := exC (run M) k laws_FnUidsKept.l2) b.mails.length (ubS R u3 u4 u5 u7 a b j m i0) 4 (ubE R u3 u4 u5 u7 a b j m i0)
    (fun i hi x => by
      have h1 := hm _ (List.getElem_mem hi)
      have e5 : IntKind.i64.wrap ((i : Int) + 1) = (i : Int) + 1 := wrap_i64 (by omega) (by omega)
      have ea : (b.mails.map encMail).length = b.mails.length := by simp
      have a1 : ∀ hh, (b.mails.map encMail)[i]'hh = encMail b.mails[i] := by intro hh; simp
      simp only [ubS, ukO]
      simp only [encBox, mails, ints, encMail, regs] at a1 ⊢
      generalize a.mails.map encMail = ra at *
      generalize b.mails.map encMail = rb at *
      generalize j.mails.map encMail = rj at *
      generalize irow a.gone = ga at *
      generalize irow b.gone = gb at *
      generalize irow j.gone = gj at *
      generalize b.mails[i].flags.map encReg = rf at *
      generalize m.flags.map encReg = rm at *
      by_cases c : b.mails[i].uid = m.uid
      · have c2 := h1 c
        simp (maxSteps := 1000000) [laws_FnUidsKept.l2, List.range_succ, bs_get, setAt, hi, c, c2, e5, ea, a1]
      · simp (maxSteps := 1000000) [laws_FnUidsKept.l2, List.range_succ, bs_get, setAt, hi, c, e5, ea, a1])
    (fun x => by
      have ea : (b.mails.map encMail).length = b.mails.length := by simp
      simp only [ubS, ubE, ukO]
      simp only [encBox, mails, ints]
      generalize a.mails.map encMail = ra at *
      generalize b.mails.map encMail = rb at *
      generalize j.mails.map encMail = rj at *
      simp (maxSteps := 1000000) [laws_FnUidsKept.l2, List.range_succ, bs_get, setAt, ea])
  exact ⟨_, loopN_le (hr x) (by omega)⟩
def ukS (R : List (List T)) (u3 u4 u5 : Nat) (a b j : Box) (i : Nat) (x : Nat) : St := { t := [(0, .c (.sl false 1 R)), (3, .c (.ptr 3 u3 0 0)), (4, .c (.ptr 4 u4 0 0)), (5, .c (.ptr 5 u5 0 0)), (6, .c (I i))], o := mkO u3 u4 u5 a b j, n := x }
def ukE (R : List (List T)) (u3 u4 u5 : Nat) (a b j : Box) (x : Nat) : St := { t := [(0, .c (.sl false 1 R)), (3, .c (.ptr 3 u3 0 0)), (4, .c (.ptr 4 u4 0 0)), (5, .c (.ptr 5 u5 0 0)), (6, .c (I j.mails.length)), (29, .c (.bool false))], o := mkO u3 u4 u5 a b j, n := x }
theorem uk_end (R : List (List T)) (k u3 u4 u5 : Nat) (a b j : Box) (x : Nat) : ∃ y, exC (run M) k laws_FnUidsKept.l0 (ukS R u3 u4 u5 a b j j.mails.length x) = some (.exit 0, ukE R u3 u4 u5 a b j y) := by
  have ej : (j.mails.map encMail).length = j.mails.length := by simp
  simp only [ukS, ukE, mkO]
  simp only [encBox, mails, ints]
  generalize a.mails.map encMail = ra at *
  generalize b.mails.map encMail = rb at *
  generalize j.mails.map encMail = rj at *
  simp (maxSteps := 1000000) [laws_FnUidsKept.l0, List.range_succ, bs_get, setAt, ej]
/-- a new number: nothing is asked -/
theorem uk_skip (R : List (List T)) (k u3 u4 u5 : Nat) (a b j : Box) (hj : j.mails.length ≤ 1048576) (i : Nat) (hi : i < j.mails.length) (x : Nat) (c1 : a.next ≤ j.mails[i].uid) (c2 : b.next ≤ j.mails[i].uid) :
    ∃ y, exC (run M) k laws_FnUidsKept.l0 (ukS R u3 u4 u5 a b j i x) = some (.normal, ukS R u3 u4 u5 a b j (i + 1) y) := by
  have e5 : IntKind.i64.wrap ((i : Int) + 1) = (i : Int) + 1 := wrap_i64 (by omega) (by omega)
  have ej : (j.mails.map encMail).length = j.mails.length := by simp
  have a1 : ∀ hh, (j.mails.map encMail)[i]'hh = encMail j.mails[i] := by intro hh; simp
  simp only [ukS, mkO]
  simp only [encBox, mails, ints, encMail, regs] at a1 ⊢
  generalize a.mails.map encMail = ra at *
  generalize b.mails.map encMail = rb at *
  generalize j.mails.map encMail = rj at *
  generalize irow a.gone = ga at *
  generalize irow b.gone = gb at *
  generalize irow j.gone = gj at *
  generalize j.mails[i].flags.map encReg = rf at *
  simp (maxSteps := 1000000) [laws_FnUidsKept.l0, List.range_succ, bs_get, setAt, hi, c1, c2, e5, ej, a1]
set_option maxHeartbeats 4000000 in
theorem uk_turn (ka : impl_MailAt.k M) (R : List (List T)) (k u3 u4 u5 : Nat) (a b j : Box) (ha : a.mails.length ≤ 1048576) (hb : b.mails.length ≤ 1048576) (hj : j.mails.length ≤ 1048576) (hka : a.mails.length < k) (hkb : b.mails.length < k) (i : Nat) (hi : i < j.mails.length) (x : Nat)
    (hold : ¬ (a.next ≤ j.mails[i].uid ∧ b.next ≤ j.mails[i].uid))
    (g1 : ∀ x ∈ a.mails, x.gid = j.mails[i].gid → x.uid = j.mails[i].uid) (g2 : ∀ y ∈ b.mails, y.gid = j.mails[i].gid → y.uid = j.mails[i].uid)
    (g3 : (∀ x ∈ a.mails, x.gid ≠ j.mails[i].gid) → a.next ≤ j.mails[i].uid) (g4 : (∀ y ∈ b.mails, y.gid ≠ j.mails[i].gid) → b.next ≤ j.mails[i].uid)
    (m1 : ∀ x ∈ a.mails, x.uid = j.mails[i].uid → x.gid = j.mails[i].gid) (m2 : ∀ x ∈ b.mails, x.uid = j.mails[i].uid → x.gid = j.mails[i].gid) :
    ∃ y, exC (run M) k laws_FnUidsKept.l0 (ukS R u3 u4 u5 a b j i x) = some (.normal, ukS R u3 u4 u5 a b j (i + 1) y) := by
  obtain ⟨y1, r1⟩ := ua_loop (M := M) R k u3 u4 u5 (x + 160) a b j j.mails[i] i ha hka m1 (x + 400)
  obtain ⟨y2, r2⟩ := ub_loop (M := M) R k u3 u4 u5 (x + 160) a b j j.mails[i] i hb hkb m2 (y1 + 16)
  have h1 := impl_MailAt.says ka a j.mails[i].gid ha
  have h2 := impl_MailAt.says ka b j.mails[i].gid hb
  have e5 : IntKind.i64.wrap ((i : Int) + 1) = (i : Int) + 1 := wrap_i64 (by omega) (by omega)
  have ea : (a.mails.map encMail).length = a.mails.length := by simp
  have eb : (b.mails.map encMail).length = b.mails.length := by simp
  have ej : (j.mails.map encMail).length = j.mails.length := by simp
  have a1 : ∀ hh, (j.mails.map encMail)[i]'hh = encMail j.mails[i] := by intro hh; simp
  have ez : ((0 : Nat) : Int) = 0 := rfl
  simp only [uaS, uaE, ukO, ez] at r1
  simp only [ubS, ubE, ukO, ez] at r2
  have key : (∀ p, mailO a.mails j.mails[i].gid = some p → ∃ hp : p < a.mails.length, a.mails[p].uid = j.mails[i].uid) ∧ (mailO a.mails j.mails[i].gid = none → a.next ≤ j.mails[i].uid) ∧
      (∀ p, mailO b.mails j.mails[i].gid = some p → ∃ hp : p < b.mails.length, b.mails[p].uid = j.mails[i].uid) ∧ (mailO b.mails j.mails[i].gid = none → b.next ≤ j.mails[i].uid) := by
    refine ⟨fun p hp => ?_, fun h => g3 (mailO_none.1 h), fun p hp => ?_, fun h => g4 (mailO_none.1 h)⟩
    · obtain ⟨q1, q2, _⟩ := mailO_some hp
      exact ⟨q1, g1 _ (List.getElem_mem q1) q2⟩
    · obtain ⟨q1, q2, _⟩ := mailO_some hp
      exact ⟨q1, g2 _ (List.getElem_mem q1) q2⟩
  obtain ⟨k1, k2, k3, k4⟩ := key
  clear g1 g2 g3 g4 m1 m2
  simp only [ukS, mkO]
  cases hp : mailO a.mails j.mails[i].gid with
  | some p =>
    obtain ⟨p1, p2⟩ := k1 p hp
    have np : ¬ (p : Int) < 0 := by omega
    have b1 : ∀ hh, (a.mails.map encMail)[p]'hh = encMail a.mails[p] := by intro hh; simp
    rw [hp] at h1
    cases hq : mailO b.mails j.mails[i].gid with
    | some q =>
      obtain ⟨q1, q2⟩ := k3 q hq
      have nq : ¬ (q : Int) < 0 := by omega
      have b2 : ∀ hh, (b.mails.map encMail)[q]'hh = encMail b.mails[q] := by intro hh; simp
      rw [hq] at h2
      simp only [encBox, mails, ints, encMail, regs, intO] at a1 b1 b2 h1 h2 r1 r2 ⊢
      generalize a.mails.map encMail = ra at *
      generalize b.mails.map encMail = rb at *
      generalize j.mails.map encMail = rj at *
      generalize irow a.gone = ga at *
      generalize irow b.gone = gb at *
      generalize irow j.gone = gj at *
      generalize j.mails[i].flags.map encReg = rf at *
      generalize a.mails[p].flags.map encReg = rfa at *
      generalize b.mails[q].flags.map encReg = rfb at *
      by_cases c1 : a.next ≤ j.mails[i].uid
      · have c2 : ¬ b.next ≤ j.mails[i].uid := fun c => hold ⟨c1, c⟩
        simp (maxSteps := 1000000) [laws_FnUidsKept.l0, List.range_succ, bs_get, setAt, hi, c1, c2, r1, r2, h1, h2, p1, p2, q1, q2, b1, b2, np, nq, e5, ea, eb, ej, a1]
      · simp (maxSteps := 1000000) [laws_FnUidsKept.l0, List.range_succ, bs_get, setAt, hi, c1, r1, r2, h1, h2, p1, p2, q1, q2, b1, b2, np, nq, e5, ea, eb, ej, a1]
    | none =>
      have q1 := k4 hq
      have q2 : ¬ j.mails[i].uid < b.next := by omega
      rw [hq] at h2
      simp only [encBox, mails, ints, encMail, regs, intO] at a1 b1 h1 h2 r1 r2 ⊢
      generalize a.mails.map encMail = ra at *
      generalize b.mails.map encMail = rb at *
      generalize j.mails.map encMail = rj at *
      generalize irow a.gone = ga at *
      generalize irow b.gone = gb at *
      generalize irow j.gone = gj at *
      generalize j.mails[i].flags.map encReg = rf at *
      generalize a.mails[p].flags.map encReg = rfa at *
      have c1 : ¬ a.next ≤ j.mails[i].uid := fun c => hold ⟨c, q1⟩
      simp (maxSteps := 1000000) [laws_FnUidsKept.l0, List.range_succ, bs_get, setAt, hi, c1, r1, r2, h1, h2, p1, p2, q2, b1, np, e5, ea, eb, ej, a1]
  | none =>
    have p1 := k2 hp
    have p2 : ¬ j.mails[i].uid < a.next := by omega
    rw [hp] at h1
    have c2 : ¬ b.next ≤ j.mails[i].uid := fun c => hold ⟨p1, c⟩
    cases hq : mailO b.mails j.mails[i].gid with
    | some q =>
      obtain ⟨q1, q2⟩ := k3 q hq
      have nq : ¬ (q : Int) < 0 := by omega
      have b2 : ∀ hh, (b.mails.map encMail)[q]'hh = encMail b.mails[q] := by intro hh; simp
      rw [hq] at h2
      simp only [encBox, mails, ints, encMail, regs, intO] at a1 b2 h1 h2 r1 r2 ⊢
      generalize a.mails.map encMail = ra at *
      generalize b.mails.map encMail = rb at *
      generalize j.mails.map encMail = rj at *
      generalize irow a.gone = ga at *
      generalize irow b.gone = gb at *
      generalize irow j.gone = gj at *
      generalize j.mails[i].flags.map encReg = rf at *
      generalize b.mails[q].flags.map encReg = rfb at *
      simp (maxSteps := 1000000) [laws_FnUidsKept.l0, List.range_succ, bs_get, setAt, hi, p1, p2, c2, r1, r2, h1, h2, q1, q2, b2, nq, e5, ea, eb, ej, a1]
    | none => exact (hold ⟨p1, k4 hq⟩).elim
theorem uk_loop (ka : impl_MailAt.k M) (R : List (List T)) (k u3 u4 u5 : Nat) {a b : Box} (hA : Apart a) (hB : Apart b) (hk : 41 ≤ k) (x : Nat) :
    ∃ y, loopN (exC (run M) k laws_FnUidsKept.l0) k (ukS R u3 u4 u5 a b (joinBox a b) 0 x) = some (.exit 0, ukE R u3 u4 u5 a b (joinBox a b) y) := by
  have hg : a.gid = b.gid := by rw [hA.gid, hB.gid]
  have H := hA.good.joins hB.good
  have hJI := joinBox_in H
  obtain ⟨pm, pg⟩ := joinBox_parts hg
  have hj20 : (joinBox a b).mails.length ≤ 20 := by rw [pm]; exact joined_count H
  have hla := hA.good.len
  have hlb := hB.good.len
  obtain ⟨g, hr⟩ := count_loop (f := exC (run M) k laws_FnUidsKept.l0) (joinBox a b).mails.length (ukS R u3 u4 u5 a b (joinBox a b)) 0 (ukE R u3 u4 u5 a b (joinBox a b))
    (fun i hi x => by
      by_cases c : a.next ≤ (joinBox a b).mails[i].uid ∧ b.next ≤ (joinBox a b).mails[i].uid
      · exact uk_skip R k u3 u4 u5 a b (joinBox a b) (by omega) i hi x c.1 c.2
      · have hm : (joinBox a b).mails[i] ∈ (joinedS a b).1 := by rw [← pm]; exact List.getElem_mem hi
        obtain ⟨g1, g2, g3, g4⟩ := uid_kept hA.good hB.good hm c
        exact uk_turn ka R k u3 u4 u5 a b (joinBox a b) H.ia.m H.ib.m (by omega) (by omega) (by omega) i hi x c g1 g2 g3 g4 (uid_mean hA.good g1 g3) (uid_mean hB.good g2 g4))
    (fun x => uk_end R k u3 u4 u5 a b (joinBox a b) x)
  exact ⟨_, loopN_le (hr x) (by omega)⟩
set_option maxHeartbeats 8000000 in
set_option maxRecDepth 100000 in
theorem laws_FnUidsKept.says (h : laws_FnUidsKept.k M) (R : List (List T)) (hl : R.length ≤ 9223372036854775807) (hr : ∀ (i : Nat) (r : List T), R[i]? = some r → ∃ n : Int, r = [.int .u8 n]) :
    run M 395 [.c (.sl false 1 R)] [] = some (.c (.bool true), []) := by
  obtain ⟨h0, kk2, kk, kbig, ksame, kat, kd, kj, kj2, kd2, kjm⟩ := h
  have hbig := laws_big.says kbig R hl
  by_cases cb : 1048576 < R.length
  · rw [decide_eq_true cb] at hbig
    refine run_code (b := laws_FnUidsKept.m) h0 ⟨0, ?_⟩
    simp (maxSteps := 1000000) [exB, laws_FnUidsKept.m, laws_FnUidsKept.b, List.range_succ, bs_get, setAt, hbig]
  rw [decide_eq_false cb] at hbig
  have hR : Bytes R := ⟨by omega, hr⟩
  obtain ⟨a, b, hA, hB, h1⟩ := spec_DrawTwoBoxes.says kd hR
  obtain ⟨u, v, g, hU, h3⟩ := spec_DrawKeepsUid.says kd2 hR
  have hg : a.gid = b.gid := by rw [hA.gid, hB.gid]
  have H := hA.good.joins hB.good
  have hJI := joinBox_in H
  obtain ⟨pm, pg⟩ := joinBox_parts hg
  have h4 := impl_JoinBox.says kj a b H
  have h5 := spec_JoinBox.says kj2 a b H
  have h6 := laws_sameBox.self ksame _ hJI
  have h7 := impl_JoinMails.says kjm a b H
  rw [← pm] at h7
  have h8 := impl_KeepsUid.says kk u v g hU.ia.m hU.ib.m
  have h9 := spec_KeepsUid.says kk2 u v g hU.ia.m hU.ib.m
  obtain ⟨n1, r1⟩ := uk_loop kat R 41 2000128 2000144 2000240 hA hB (by omega) 2000288
  refine run_code (b := laws_FnUidsKept.m) h0 ⟨41, ?_⟩
  simp only [ukS, ukE, mkO] at r1
  have ez : ((0 : Nat) : Int) = 0 := rfl
  simp only [ez] at r1
  have la : (a.mails.map encMail).length = a.mails.length := by simp
  have la2 := irow_length a.gone
  have lb : (b.mails.map encMail).length = b.mails.length := by simp
  have lb2 := irow_length b.gone
  have lj : ((joinBox a b).mails.map encMail).length = (joinBox a b).mails.length := by simp
  have lj2 := irow_length (joinBox a b).gone
  have lu : (u.mails.map encMail).length = u.mails.length := by simp
  have lu2 := irow_length u.gone
  have lv : (v.mails.map encMail).length = v.mails.length := by simp
  have lv2 := irow_length v.gone
  clear hJI H hU hA hB pm pg
  generalize keepsUid u v g = w at *
  generalize joinBox a b = j at *
  simp only [encBox, encBoxO, mails, ints] at *
  generalize a.mails.map encMail = ra at *
  generalize irow a.gone = ga at *
  generalize b.mails.map encMail = rb at *
  generalize irow b.gone = gb at *
  generalize j.mails.map encMail = rj at *
  generalize irow j.gone = gj at *
  generalize u.mails.map encMail = ru at *
  generalize irow u.gone = gu at *
  generalize v.mails.map encMail = rv at *
  generalize irow v.gone = gv at *
  simp (maxSteps := 1000000) [exB, laws_FnUidsKept.m, laws_FnUidsKept.b, List.range_succ, bs_get, setAt, hbig, h1, h3, h4, h5, h6, h7, h8, h9, r1, la, la2, lb, lb2, lj, lj2, lu, lu2, lv, lv2, List.take_of_length_le]
theorem laws_FnUidsKept.row (h : laws_FnUidsKept.k M) {as : List V} (ha : HasVs [.cell (.sl [.int .u8])] as) : run M 395 as [] = some (.c (.bool true), []) := by
  cases ha with | cons h0 ha =>
  cases ha
  cases h0 with | cell h0 =>
  cases h0 with | sl _ rows hl h1 h2 =>
  refine laws_FnUidsKept.says h rows (Nat.le_trans hl (by decide)) fun i r hr => ?_
  have hlen := h1 i r hr
  match r, hlen with
  | [a], _ =>
    obtain ⟨n, rfl⟩ := has_int (h2 i 0 [a] (.int .u8) a hr rfl rfl)
    exact ⟨n, rfl⟩
end Mx
