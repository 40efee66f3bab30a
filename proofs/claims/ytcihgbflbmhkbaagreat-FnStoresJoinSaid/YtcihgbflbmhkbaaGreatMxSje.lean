/-
  What more of the functions compute, each by a small evaluation; no condition beyond what each says.
-/
import Derived.Test.YtcihgbflbmhkbaaGreatMxSjd
set_option linter.unusedSimpArgs false
set_option linter.unusedVariables false
namespace Mx
open Go
variable {M : Nat → Option Body}
def renOne (acc : List Box) (x : Box) : Box := if (acc.any fun y => decide (y.name = x.name)) = true then { x with name := otherName x.name x.gid } else x
theorem renStep_eq (acc : List Box) (x : Box) : renStep acc x = acc ++ [renOne acc x] := rfl
theorem ren_snoc (l : List Box) (x : Box) : ren (l ++ [x]) = ren l ++ [renOne (ren l) x] := by
  unfold ren; rw [List.foldl_append]; rfl
theorem ren_fold_len : ∀ (l acc : List Box), (l.foldl renStep acc).length = acc.length + l.length
  | [], acc => by simp
  | x :: l, acc => by
    rw [List.foldl_cons, ren_fold_len l, renStep_eq]
    simp; omega
theorem ren_len (l : List Box) : (ren l).length = l.length := by unfold ren; rw [ren_fold_len]; simp
def renTo (l : List Box) (i : Nat) : List Box := ren (l.take i) ++ l.drop i
theorem renTo_zero (l : List Box) : renTo l 0 = l := by simp [renTo, ren]
theorem renTo_all (l : List Box) : renTo l l.length = ren l := by simp [renTo]
theorem renTo_len (l : List Box) (i : Nat) : (renTo l i).length = l.length := by
  simp only [renTo, List.length_append, ren_len, List.length_take, List.length_drop]; omega
theorem renTo_at (l : List Box) (i : Nat) (h : i < l.length) : (renTo l i)[i]'(by rw [renTo_len]; exact h) = l[i] := by
  have e : (ren (l.take i)).length = i := by rw [ren_len]; simp; omega
  simp only [renTo]
  rw [List.getElem_append_right (by omega)]
  simp [e]
theorem renTo_succ (l : List Box) (i : Nat) (h : i < l.length) : renTo l (i + 1) = (renTo l i).set i (renOne (ren (l.take i)) l[i]) := by
  have e : (ren (l.take i)).length = i := by rw [ren_len]; simp; omega
  have hd : l.drop i = l[i] :: l.drop (i + 1) := List.drop_eq_getElem_cons h
  simp only [renTo, take_snoc l i h, ren_snoc]
  rw [List.set_append_right _ _ (by omega), e, Nat.sub_self]
  simp
  rw [hd]; rfl
def jrS (L : List Box) (Z : List (List T)) (s : JsS) : St := { t := [(7, .c (.row 16 s.v 0 L.length)), (65, .c (.row 16 s.v 0 L.length)), (66, .c (I L.length)), (67, .c (I s.i))], o := [(16, ⟨s.v, 7, true, false, (renTo L s.i).map encBox ++ Z⟩)], n := s.n }
def jrE (L : List Box) (Z : List (List T)) (s : JsS) : St := { t := [(7, .c (.row 16 s.v 0 L.length)), (65, .c (.row 16 s.v 0 L.length)), (66, .c (I L.length)), (67, .c (I s.i)), (68, .c (.bool false))], o := [(16, ⟨s.v, 7, true, false, (renTo L s.i).map encBox ++ Z⟩)], n := s.n }
set_option maxHeartbeats 1000000 in
theorem jr_turn (K : JsK M) (k : Nat) (L : List Box) (Z : List (List T)) (hL : L.length ≤ 1048576) (hb : ∀ b ∈ L, b.name.length ≤ 1048576 ∧ b.gid ≤ 9223372036854775807) (s : JsS) (hs : s.i < L.length) :
    ∃ n', exC (run M) k impl_JoinBoxes.l2 (jrS L Z s) = some (.normal, jrS L Z ⟨s.i + 1, s.v, n'⟩) := by
  obtain ⟨i, v, n⟩ := s
  simp only at hs
  have hx := hb _ (List.getElem_mem hs)
  have hr1 : (ren (L.take i)).length = i := by rw [ren_len]; simp; omega
  have h1 := slices_ContainsFunc_impl_Box_impl_Box.says K.has (fun y => impl_JoinBoxes_4.says K.c4 y L[i]) (ren (L.take i)) (by omega)
  have h2 := impl_OtherName.says K.name L[i].name L[i].gid hx.1 hx.2
  have e5 := wrap1 (i := i) (by omega)
  have el : ((renTo L i).map encBox).length = L.length := by simp [renTo_len]
  have e7 : i < ((renTo L i).map encBox ++ Z).length := by simp [renTo_len]; omega
  have e8 : i ≤ ((renTo L i).map encBox ++ Z).length := by omega
  have a1 : ∀ hh, ((renTo L i).map encBox ++ Z)[i]'hh = encBox L[i] := by
    intro hh
    rw [List.getElem_append_left (by omega)]
    simp only [List.getElem_map, renTo_at L i hs]
  have e9 : ((renTo L i).map encBox ++ Z).take i = (ren (L.take i)).map encBox := by
    rw [List.take_append_of_le_length (by omega), ← List.map_take]
    congr 1
    simp only [renTo]
    rw [List.take_append_of_le_length (by omega)]
    exact List.take_of_length_le (by omega)
  have t3 : (renTo L (i + 1)).map encBox ++ Z = ((renTo L i).map encBox ++ Z).set i (encBox (renOne (ren (L.take i)) L[i])) := by
    rw [renTo_succ L i hs, List.map_set, List.set_append_left _ _ (by omega)]
  have e10 : i ≤ L.length := by omega
  simp only [jrS, t3]
  clear t3 el
  unfold renOne
  generalize (ren (L.take i)).any (fun y => decide (y.name = L[i].name)) = w at *
  simp only [boxes] at h1
  generalize (ren (L.take i)).map encBox = rp at *
  generalize (renTo L i).map encBox ++ Z = rr at *
  generalize otherName L[i].name L[i].gid = nm at *
  simp only [encBox, mails, ints] at h1 a1 ⊢
  generalize L[i] = x at *
  generalize L.length = N at *
  generalize hm : x.mails.map encMail = rm at *
  generalize hg : irow x.gone = rg at *
  cases w
  · simp only [Bool.false_eq_true, if_false]
    rw [hm, hg]
    have e11 : rr.set i [I x.gid, S x.name, I x.time, I x.who, I x.next, T.sl false 4 rm, T.sl false 1 rg] = rr := by
      rw [← a1 e7, List.set_getElem_self]
    rw [e11]
    simp (maxSteps := 1000000) [impl_JoinBoxes.l2, List.range_succ, bs_get, setAt, hs, h1, e5, e7, e8, e9, e10, a1, List.take_of_length_le]
  · simp only [if_true]
    rw [hm, hg]
    simp (maxSteps := 1000000) [impl_JoinBoxes.l2, List.range_succ, bs_get, setAt, hs, h1, h2, e5, e7, e8, e9, e10, a1, List.take_of_length_le]
theorem jr_end (k : Nat) (L : List Box) (Z : List (List T)) (s : JsS) (hs : ¬ s.i < L.length) :
    ∃ n', exC (run M) k impl_JoinBoxes.l2 (jrS L Z s) = some (.exit 4, jrE L Z ⟨s.i, s.v, n'⟩) := by
  obtain ⟨i, v, n⟩ := s
  simp only at hs
  simp only [jrS, jrE]
  generalize (renTo L i).map encBox ++ Z = rr at *
  simp (maxSteps := 1000000) [impl_JoinBoxes.l2, List.range_succ, bs_get, setAt, hs]
theorem jp_loop (K : JsK M) (k u5 : Nat) (a b : List Box) (G : List Int) (ha : GoodL a) (hb : GoodL b) (v n : Nat) (hk : a.length < k) :
    ∃ v' n', loopN (exC (run M) k impl_JoinBoxes.l0) k (jpS u5 a b G ⟨0, v, n⟩) = some (.exit 0, jpE u5 a b G ⟨a.length, v', n'⟩) := by
  obtain ⟨r, hr, ⟨⟨i, v', n'⟩, rfl, hi⟩⟩ := loop_ex (f := exC (run M) k impl_JoinBoxes.l0) (jpS u5 a b G) (fun s => s.i ≤ a.length) (fun s => a.length - s.i) (fun r => ∃ s', r = (.exit 0, jpE u5 a b G s') ∧ s'.i = a.length)
    (fun s hs => by
      by_cases c : s.i < a.length
      · left
        obtain ⟨v', n', hh⟩ := jp_turn K k u5 a b G ha hb s c
        exact ⟨_, hh, by simp only; omega, by simp only; omega⟩
      · right
        obtain ⟨n', hh⟩ := jp_end (M := M) k u5 a b G s c
        exact ⟨_, hh, by simp, _, rfl, by simp only; omega⟩) k ⟨0, v, n⟩ (by simp) (by simp only; omega)
  simp only at hi
  subst hi
  exact ⟨v', n', hr⟩
theorem jq_loop (K : JsK M) (k u5 : Nat) (a b : List Box) (G : List Int) (ha : GoodL a) (hb : GoodL b) (v n : Nat) (hk : b.length < k) :
    ∃ v' n', loopN (exC (run M) k impl_JoinBoxes.l1) k (jqS u5 a b G ⟨0, v, n⟩) = some (.exit 2, jqE u5 a b G ⟨b.length, v', n'⟩) := by
  obtain ⟨r, hr, ⟨⟨i, v', n'⟩, rfl, hi⟩⟩ := loop_ex (f := exC (run M) k impl_JoinBoxes.l1) (jqS u5 a b G) (fun s => s.i ≤ b.length) (fun s => b.length - s.i) (fun r => ∃ s', r = (.exit 2, jqE u5 a b G s') ∧ s'.i = b.length)
    (fun s hs => by
      by_cases c : s.i < b.length
      · left
        obtain ⟨v', n', hh⟩ := jq_turn K k u5 a b G ha hb s c
        exact ⟨_, hh, by simp only; omega, by simp only; omega⟩
      · right
        obtain ⟨n', hh⟩ := jq_end (M := M) k u5 a b G s c
        exact ⟨_, hh, by simp, _, rfl, by simp only; omega⟩) k ⟨0, v, n⟩ (by simp) (by simp only; omega)
  simp only at hi
  subst hi
  exact ⟨v', n', hr⟩
theorem jr_loop (K : JsK M) (k : Nat) (L : List Box) (Z : List (List T)) (hL : L.length ≤ 1048576) (hb : ∀ b ∈ L, b.name.length ≤ 1048576 ∧ b.gid ≤ 9223372036854775807) (v n : Nat) (hk : L.length < k) :
    ∃ n', loopN (exC (run M) k impl_JoinBoxes.l2) k (jrS L Z ⟨0, v, n⟩) = some (.exit 4, jrE L Z ⟨L.length, v, n'⟩) := by
  obtain ⟨r, hr, ⟨⟨i, v', n'⟩, rfl, hi, hv⟩⟩ := loop_ex (f := exC (run M) k impl_JoinBoxes.l2) (jrS L Z) (fun s => s.i ≤ L.length ∧ s.v = v) (fun s => L.length - s.i) (fun r => ∃ s', r = (.exit 4, jrE L Z s') ∧ s'.i = L.length ∧ s'.v = v)
    (fun s hs => by
      by_cases c : s.i < L.length
      · left
        obtain ⟨n', hh⟩ := jr_turn K k L Z hL hb s c
        exact ⟨_, hh, ⟨by simp only; omega, hs.2⟩, by simp only; omega⟩
      · right
        obtain ⟨n', hh⟩ := jr_end (M := M) k L Z s c
        have := hs.1
        exact ⟨_, hh, by simp, _, rfl, by simp only; omega, hs.2⟩) k ⟨0, v, n⟩ ⟨by simp, rfl⟩ (by simp only; omega)
  simp only at hi hv
  subst hi
  subst hv
  exact ⟨n', hr⟩
theorem boxIn_some {l : List Box} {g : Int} {b : Box} (h : boxIn l g = some b) : b ∈ l ∧ b.gid = g := ⟨List.mem_of_find?_eq_some h, by simpa using List.find?_some h⟩
/-- a box of both: from one side, or joined -/
theorem allB_mem {a b : List Box} (x : Box) (h : x ∈ allB a b) : x ∈ a ∨ x ∈ b ∨ ∃ y ∈ a, ∃ z ∈ b, y.gid = z.gid ∧ x = joinBox y z := by
  rcases List.mem_append.1 h with q | q
  · obtain ⟨y, hy, e⟩ := List.mem_map.1 q
    cases hz : boxIn b y.gid with
    | none => rw [hz] at e; simp only at e; subst e; exact .inl hy
    | some z =>
      rw [hz] at e; simp only at e
      obtain ⟨h1, h2⟩ := boxIn_some hz
      exact .inr (.inr ⟨y, hy, z, h1, h2.symm, e.symm⟩)
  · exact .inr (.inl (List.mem_filter.1 q).1)
theorem joinBox_name (a b : Box) : (joinBox a b).name = a.name ∨ (joinBox a b).name = b.name := by
  unfold joinBox
  split
  · simp only; split
    · exact .inr rfl
    · exact .inl rfl
  · exact .inl rfl
theorem joinBox_gid (a b : Box) : (joinBox a b).gid = a.gid := by unfold joinBox; split <;> rfl
theorem allB_names {a b : List Box} (ha : GoodL a) (hb : GoodL b) (x : Box) (h : x ∈ allB a b) : x.name.length ≤ 12 ∧ x.gid ≤ 9999 := by
  have hg : ∀ {c : Box}, Good c → c.name.length ≤ 12 ∧ c.gid ≤ 9999 := fun {c} hc => ⟨(nameOk_len hc.name).2, hc.gid.2⟩
  rcases allB_mem x h with q | q | ⟨y, hy, z, hz, e, rfl⟩
  · exact hg (ha.good x q)
  · exact hg (hb.good x q)
  · have h1 := hg (ha.good y hy)
    have h2 := hg (hb.good z hz)
    rw [joinBox_gid]
    rcases joinBox_name y z with q | q <;> rw [q]
    · exact h1
    · exact ⟨h2.1, h1.2⟩
theorem allB_len (a b : List Box) : (allB a b).length ≤ a.length + b.length := by
  have := List.length_filter_le (fun x : Box => (boxIn a x.gid).isNone) b
  simp only [allB, List.length_append, firstB_len]; omega
set_option maxHeartbeats 4000000 in
theorem impl_JoinBoxes.says (h : impl_JoinBoxes.k M) (a b : List Box) (G : List Int) (ha : GoodL a) (hb : GoodL b) (hG : G.length ≤ 4194304) :
    run M 467 [.c (boxes a), .c (boxes b), .c (ints G)] [] = some (.c (.sl true 7 ((joinBoxesI a b G).map encBox)), []) := by
  obtain ⟨h0, k1, k2, k3, k4, k5, k6, k7, k8, k9, k10⟩ := h
  have K : JsK M := ⟨k1, k2, k3, k4, k5, k6, k7, k8, k9, k10⟩
  have hla := ha.len
  have hlb := hb.len
  refine run_code (b := impl_JoinBoxes.m) h0 ⟨a.length + b.length + 21, ?_⟩
  generalize hk : a.length + b.length + 21 = k
  obtain ⟨v1, n1, r1⟩ := jp_loop K k 2000000 a b G ha hb 2000032 2000128 (by omega)
  obtain ⟨v2, n2, r2⟩ := jq_loop K k 2000000 a b G ha hb v1 (n1 + 48) (by omega)
  have hc2 := fun x => impl_JoinBoxes_2.says k5 x G hG
  have hal := allB_len a b
  have h5 := slices_DeleteFunc_impl_Box_impl_Box.says k4 hc2 (allB a b) (by omega)
  have hkl : ((allB a b).filter fun x => !decide (x.gid ∈ G)).length ≤ (allB a b).length := List.length_filter_le _ _
  have hnm : ∀ x ∈ sortBy (fun x : Box => x.gid) ((allB a b).filter fun x => !decide (x.gid ∈ G)), x.name.length ≤ 1048576 ∧ x.gid ≤ 9223372036854775807 := fun x hx => by
    have := allB_names ha hb x (List.mem_filter.1 (sortBy_mem.1 hx)).1
    omega
  unfold joinBoxesI
  generalize hz : List.replicate ((allB a b).length - ((allB a b).filter fun x => !decide (x.gid ∈ G)).length) bzero = Z at *
  generalize hl1 : ((allB a b).filter fun x => !decide (x.gid ∈ G)) = l1 at *
  have h6 := slices_SortStableFunc_impl_Box_impl_Box.says k6 (k := fun x : Box => x.gid) (impl_JoinBoxes_3.says k7) l1 Z (by omega)
  have hl2 : (sortBy (fun x : Box => x.gid) l1).length = l1.length := sortBy_len _
  generalize hs2 : sortBy (fun x : Box => x.gid) l1 = l2 at *
  obtain ⟨n3, r3⟩ := jr_loop K k l2 Z (by omega) hnm v2 (n2 + 64 + 32 + 48) (by omega)
  have el0 : ((allB a b).map encBox).length = (allB a b).length := by simp
  have el1 : l1.length ≤ (l1.map encBox ++ Z).length := by simp
  have el2 : l1.length ≤ (l2.map encBox ++ Z).length := by simp [hl2]
  have el4 : l1.length ≤ ((ren l2).map encBox ++ Z).length := by simp [ren_len, hl2]
  have el5 : (((ren l2).map encBox ++ Z).take l1.length) = (ren l2).map encBox := by
    rw [List.take_append_of_le_length (by simp [ren_len, hl2])]
    exact List.take_of_length_le (by simp [ren_len, hl2])
  have hfl := firstB_len a b
  have ea : (a.map encBox).length = a.length := by simp
  have eb : (b.map encBox).length = b.length := by simp
  have ez : ((0 : Nat) : Int) = 0 := rfl
  have hfa : (firstB a b).take a.length = firstB a b := List.take_of_length_le (by omega)
  simp only [jpS, jpE, jsO, List.take_zero, List.map_nil, hfa, ez] at r1
  simp only [jqS, jqE, jsO, upToB_zero, upToB_all, hfl, ez] at r2
  have hra : renTo l2 l1.length = ren l2 := by rw [← hl2]; exact renTo_all l2
  simp only [jrS, jrE, renTo_zero, ez, hl2, hra] at r3
  simp only [bRow, List.append_nil] at h5 h6
  generalize (ren l2).map encBox = R4 at *
  generalize R4 ++ Z = R4Z at *
  generalize l2.map encBox ++ Z = R2Z at *
  generalize l1.map encBox ++ Z = R1Z at *
  clear hl1 hs2 hz hc2 K hnm hl2 hra
  generalize (allB a b).map encBox = R0 at *
  generalize (allB a b).length = N0 at *
  generalize (firstB a b).map encBox = RF at *
  generalize l1.length = N1 at *
  simp only [boxes, ints] at *
  generalize a.map encBox = ra at *
  generalize b.map encBox = rb at *
  generalize irow G = rg at *
  simp (maxSteps := 1000000) [exB, impl_JoinBoxes.m, impl_JoinBoxes.b, List.range_succ, bs_get, setAt, r1, r2, r3, h5, h6, ea, eb, el0, el1, el2, el4, el5, List.take_of_length_le]
end Mx

namespace Mx
open Go
variable {M : Nat → Option Body}
def gidsB (l : List Box) : List Int := l.map (·.gid)
theorem gidsB_fold (l : List Box) (s : List Int) : l.foldl (fun s m => gadd s m.gid) s = (gidsB l).foldl gadd s := by
  simp only [gidsB, List.foldl_map]
def nbS (a b : List Box) (G : List Int) (i : Nat) (s : List Int) (x : Nat × Nat) : St := { t := [(0, .c (boxes a)), (1, .c (boxes b)), (2, .c (ints G)), (7, .c (.row 16 x.1 0 s.length)), (8, .c (I i))], o := [(16, ⟨x.1, 1, true, false, irow s⟩)], n := x.2 }
def nbE (a b : List Box) (G : List Int) (s : List Int) (x : Nat × Nat) : St := { t := [(0, .c (boxes a)), (1, .c (boxes b)), (2, .c (ints G)), (7, .c (.row 16 x.1 0 s.length)), (8, .c (I a.length)), (20, .c (.bool false))], o := [(16, ⟨x.1, 1, true, false, irow s⟩)], n := x.2 }
def ncS (a b : List Box) (G : List Int) (i : Nat) (s : List Int) (x : Nat × Nat) : St := { t := [(0, .c (boxes a)), (1, .c (boxes b)), (2, .c (ints G)), (7, .c (.row 16 x.1 0 s.length)), (9, .c (I i))], o := [(16, ⟨x.1, 1, true, false, irow s⟩)], n := x.2 }
def ncE (a b : List Box) (G : List Int) (s : List Int) (x : Nat × Nat) : St := { t := [(0, .c (boxes a)), (1, .c (boxes b)), (2, .c (ints G)), (7, .c (.row 16 x.1 0 s.length)), (9, .c (I b.length)), (41, .c (.bool false))], o := [(16, ⟨x.1, 1, true, false, irow s⟩)], n := x.2 }
set_option maxHeartbeats 1000000 in
theorem nb_loop (kin : spec_l06In.k M) (kput : spec_l06Put.k M) (k : Nat) (a b : List Box) (G : List Int) (ha : a.length ≤ 5) (hk : a.length < k) (x : Nat × Nat) :
    ∃ y, loopN (exC (run M) k spec_JoinBoxes.l0) k (nbS a b G 0 [] x) = some (.exit 0, nbE a b G (a.foldl (fun s m => gadd s m.gid) []) y) := by
  obtain ⟨g, hr⟩ := fold_loop (f := exC (run M) k spec_JoinBoxes.l0) a (fun s m => gadd s m.gid) (fun i s => s.length ≤ i) (nbS a b G) 0 (nbE a b G)
    (fun i h s hs => by have := gadd_le s a[i].gid; omega)
    (fun i hi s x hs => by
      obtain ⟨v, n⟩ := x
      have e5 := wrap1 (i := i) (by omega)
      have e9 := irow_length s
      have hra : (a.map encBox).length = a.length := by simp
      have h1 := spec_l06In.says kin s a[i].gid (by omega)
      have h2 := spec_l06Put.says kput s a[i].gid (by omega)
      have a1 : ∀ hh, (a.map encBox)[i]'hh = encBox a[i] := by intro hh; simp
      have e10 := irow_length (gput s a[i].gid)
      have hfl := irow_scalar (gput s a[i].gid)
      simp only [Prod.exists, gadd]
      by_cases c : a[i].gid ∈ s
      · rw [decide_eq_true c] at h1
        rw [if_pos c]
        simp only [nbS]
        simp only [encBox, boxes, mails, ints] at a1 h1 ⊢
        generalize irow s = rs at *
        generalize a.map encBox = ra at *
        generalize b.map encBox = rb at *
        simp (maxSteps := 1000000) [spec_JoinBoxes.l0, List.range_succ, bs_get, setAt, hra, hi, h1, a1, e5, e9, List.take_of_length_le]
      · rw [decide_eq_false c] at h1
        rw [if_neg c]
        simp only [nbS]
        simp only [encBox, boxes, mails, ints] at a1 h1 h2 ⊢
        generalize irow (gput s a[i].gid) = rp at *
        generalize irow s = rs at *
        generalize a.map encBox = ra at *
        generalize b.map encBox = rb at *
        simp (maxSteps := 1000000) [spec_JoinBoxes.l0, List.range_succ, bs_get, setAt, hra, hi, h1, h2, a1, e5, e9, e10, hfl, List.take_of_length_le])
    (fun s x hs => by
      obtain ⟨v, n⟩ := x
      have hra : (a.map encBox).length = a.length := by simp
      simp only [Prod.exists, nbS, nbE, boxes, ints]
      generalize a.map encBox = ra at *
      generalize b.map encBox = rb at *
      simp (maxSteps := 1000000) [spec_JoinBoxes.l0, List.range_succ, bs_get, setAt, hra]) [] (by simp)
  exact ⟨_, loopN_le (hr x) (by omega)⟩
set_option maxHeartbeats 1000000 in
theorem nc_loop (kin : spec_l06In.k M) (kput : spec_l06Put.k M) (k : Nat) (a b : List Box) (G : List Int) (hb : b.length ≤ 5) (hk : b.length < k) (s0 : List Int) (h0 : s0.length ≤ 5) (x : Nat × Nat) :
    ∃ y, loopN (exC (run M) k spec_JoinBoxes.l1) k (ncS a b G 0 s0 x) = some (.exit 2, ncE a b G (b.foldl (fun s m => gadd s m.gid) s0) y) := by
  obtain ⟨g, hr⟩ := fold_loop (f := exC (run M) k spec_JoinBoxes.l1) b (fun s m => gadd s m.gid) (fun i s => s.length ≤ 5 + i) (ncS a b G) 2 (ncE a b G)
    (fun i h s hs => by have := gadd_le s b[i].gid; omega)
    (fun i hi s x hs => by
      obtain ⟨v, n⟩ := x
      have e5 := wrap1 (i := i) (by omega)
      have e9 := irow_length s
      have hra : (b.map encBox).length = b.length := by simp
      have h1 := spec_l06In.says kin s b[i].gid (by omega)
      have h2 := spec_l06Put.says kput s b[i].gid (by omega)
      have a1 : ∀ hh, (b.map encBox)[i]'hh = encBox b[i] := by intro hh; simp
      have e10 := irow_length (gput s b[i].gid)
      have hfl := irow_scalar (gput s b[i].gid)
      simp only [Prod.exists, gadd]
      by_cases c : b[i].gid ∈ s
      · rw [decide_eq_true c] at h1
        rw [if_pos c]
        simp only [ncS]
        simp only [encBox, boxes, mails, ints] at a1 h1 ⊢
        generalize irow s = rs at *
        generalize a.map encBox = ra at *
        generalize b.map encBox = rb at *
        simp (maxSteps := 1000000) [spec_JoinBoxes.l1, List.range_succ, bs_get, setAt, hra, hi, h1, a1, e5, e9, List.take_of_length_le]
      · rw [decide_eq_false c] at h1
        rw [if_neg c]
        simp only [ncS]
        simp only [encBox, boxes, mails, ints] at a1 h1 h2 ⊢
        generalize irow (gput s b[i].gid) = rp at *
        generalize irow s = rs at *
        generalize a.map encBox = ra at *
        generalize b.map encBox = rb at *
        simp (maxSteps := 1000000) [spec_JoinBoxes.l1, List.range_succ, bs_get, setAt, hra, hi, h1, h2, a1, e5, e9, e10, hfl, List.take_of_length_le])
    (fun s x hs => by
      obtain ⟨v, n⟩ := x
      have hra : (b.map encBox).length = b.length := by simp
      simp only [Prod.exists, ncS, ncE, boxes, ints]
      generalize a.map encBox = ra at *
      generalize b.map encBox = rb at *
      simp (maxSteps := 1000000) [spec_JoinBoxes.l1, List.range_succ, bs_get, setAt, hra]) s0 (by omega)
  exact ⟨_, loopN_le (hr x) (by omega)⟩
def joinB (a b : List Box) (g : Int) : Box := match boxIn a g, boxIn b g with
  | some x, some y => joinBox x y
  | some x, none => x
  | none, some y => y
  | none, none => ⟨0, [], 0, 0, 0, [], []⟩
def stepB (a b : List Box) (G : List Int) (out : List Box) (g : Int) : List Box := if g ∈ G then out else out ++ [joinB a b g]
def ndS (a b : List Box) (G gs : List Int) (v16 : Nat) (i : Nat) (out : List Box) (x : Nat × Nat) : St := { t := [(0, .c (boxes a)), (1, .c (boxes b)), (2, .c (ints G)), (7, .c (.row 16 v16 0 gs.length)), (10, .c (.row 59 x.1 0 out.length)), (11, .c (I i))], o := [(16, ⟨v16, 1, true, false, irow gs⟩), (59, ⟨x.1, 7, true, false, out.map encBox⟩)], n := x.2 }
def ndE (a b : List Box) (G gs : List Int) (v16 : Nat) (out : List Box) (x : Nat × Nat) : St := { t := [(0, .c (boxes a)), (1, .c (boxes b)), (2, .c (ints G)), (7, .c (.row 16 v16 0 gs.length)), (10, .c (.row 59 x.1 0 out.length)), (11, .c (I gs.length)), (63, .c (.bool false))], o := [(16, ⟨v16, 1, true, false, irow gs⟩), (59, ⟨x.1, 7, true, false, out.map encBox⟩)], n := x.2 }
structure NdK (M : Nat → Option Body) : Prop where
  inn : spec_l06In.k M
  copy : spec_l06Copy.k M
  join : spec_JoinBox.k M
  at_ : spec_l09At.k M
theorem nd_end (k : Nat) (a b : List Box) (G gs : List Int) (v16 : Nat) (out : List Box) (x : Nat × Nat) :
    ∃ y, exC (run M) k spec_JoinBoxes.l2 (ndS a b G gs v16 gs.length out x) = some (.exit 4, ndE a b G gs v16 out y) := by
  obtain ⟨v, n⟩ := x
  simp only [Prod.exists, ndS, ndE, boxes, ints]
  generalize a.map encBox = ra at *
  generalize b.map encBox = rb at *
  generalize out.map encBox = ro at *
  simp (maxSteps := 1000000) [spec_JoinBoxes.l2, List.range_succ, bs_get, setAt]
set_option maxHeartbeats 2000000 in
theorem nd_turn (K : NdK M) (k : Nat) (a b : List Box) (ha : GoodL a) (hb : GoodL b) (G gs : List Int) (hG : G.length ≤ 4194304) (hgs : gs.length ≤ 100) (hmem : ∀ g ∈ gs, g ∈ gidsB a ∨ g ∈ gidsB b) (v16 i : Nat) (hi : i < gs.length) (out : List Box) (ho : out.length ≤ i) (x : Nat × Nat) :
    ∃ y, exC (run M) k spec_JoinBoxes.l2 (ndS a b G gs v16 i out x) = some (.normal, ndS a b G gs v16 (i + 1) (stepB a b G out gs[i]) y) := by
  obtain ⟨v, n⟩ := x
  have hla := ha.len
  have hlb := hb.len
  have h1 := spec_l06In.says K.inn G gs[i] (by omega)
  have h2 := spec_l09At.says K.at_ a gs[i] (by omega)
  have h3 := spec_l09At.says K.at_ b gs[i] (by omega)
  have e5 := wrap1 (i := i) (by omega)
  have e6 : out.length + 1 ≤ 4294967296 := by omega
  have eg := irow_length gs
  have a0 : ∀ hh, (irow gs)[i]'hh = [I gs[i]] := by intro hh; simp [irow]
  have eo : (out.map encBox).length = out.length := by simp
  have ea : (a.map encBox).length = a.length := by simp
  have eb : (b.map encBox).length = b.length := by simp
  simp only [Prod.exists]
  unfold stepB
  by_cases c : gs[i] ∈ G
  · rw [decide_eq_true c] at h1
    rw [if_pos c]
    simp only [ndS]
    simp only [boxes, ints] at *
    generalize irow gs = rg at *
    generalize irow G = rG at *
    generalize a.map encBox = ra at *
    generalize b.map encBox = rb at *
    generalize out.map encBox = ro at *
    simp (maxSteps := 1000000) [spec_JoinBoxes.l2, List.range_succ, bs_get, setAt, hi, h1, e5, eg, a0, List.take_of_length_le]
  · rw [decide_eq_false c] at h1
    rw [if_neg c]
    cases hp : boxO a gs[i] with
    | some p =>
      obtain ⟨p1, p2⟩ := boxO_some hp
      have gp := ha.good _ (List.getElem_mem p1)
      have a1 : ∀ hh, (a.map encBox)[p]'hh = encBox a[p] := by intro hh; simp
      rw [hp] at h2
      cases hq : boxO b gs[i] with
      | some q =>
        obtain ⟨q1, q2⟩ := boxO_some hq
        have gq := hb.good _ (List.getElem_mem q1)
        have a2 : ∀ hh, (b.map encBox)[q]'hh = encBox b[q] := by intro hh; simp
        rw [hq] at h3
        have h4 := spec_JoinBox.says K.join a[p] b[q] (gp.joins gq)
        have ej : joinB a b gs[i] = joinBox a[p] b[q] := by simp only [joinB, p2, q2]
        rw [ej]
        simp only [ndS, List.map_append, List.map_cons, List.map_nil, List.length_append, List.length_singleton]
        simp only [encBox, encBoxO, boxes, mails, ints, intO] at h1 h2 h3 h4 a1 a2 ⊢
        generalize joinBox a[p] b[q] = j at *
        generalize irow gs = rg at *
        generalize irow G = rG at *
        generalize a.map encBox = ra at *
        generalize b.map encBox = rb at *
        generalize out.map encBox = ro at *
        generalize a[p].mails.map encMail = r1 at *
        generalize irow a[p].gone = r2 at *
        generalize b[q].mails.map encMail = r3 at *
        generalize irow b[q].gone = r4 at *
        generalize j.mails.map encMail = r5 at *
        generalize irow j.gone = r6 at *
        simp (maxSteps := 1000000) [spec_JoinBoxes.l2, List.range_succ, bs_get, setAt, hi, p1, q1, h1, h2, h3, h4, e5, e6, eg, a0, a1, a2, eo, ea, eb, List.take_of_length_le]
      | none =>
        rw [hq] at h3
        have h4 := spec_l06Copy.says K.copy a[p] gp.inB
        have ej : joinB a b gs[i] = a[p] := by simp only [joinB, p2, boxO_none hq]
        rw [ej]
        simp only [ndS, List.map_append, List.map_cons, List.map_nil, List.length_append, List.length_singleton]
        simp only [encBox, encBoxO, boxes, mails, ints, intO] at h1 h2 h3 h4 a1 ⊢
        generalize irow gs = rg at *
        generalize irow G = rG at *
        generalize a.map encBox = ra at *
        generalize b.map encBox = rb at *
        generalize out.map encBox = ro at *
        generalize a[p].mails.map encMail = r1 at *
        generalize irow a[p].gone = r2 at *
        simp (maxSteps := 1000000) [spec_JoinBoxes.l2, List.range_succ, bs_get, setAt, hi, p1, h1, h2, h3, h4, e5, e6, eg, a0, a1, eo, ea, eb, List.take_of_length_le]
    | none =>
      rw [hp] at h2
      cases hq : boxO b gs[i] with
      | some q =>
        obtain ⟨q1, q2⟩ := boxO_some hq
        have gq := hb.good _ (List.getElem_mem q1)
        have a2 : ∀ hh, (b.map encBox)[q]'hh = encBox b[q] := by intro hh; simp
        rw [hq] at h3
        have h4 := spec_l06Copy.says K.copy b[q] gq.inB
        have ej : joinB a b gs[i] = b[q] := by simp only [joinB, q2, boxO_none hp]
        rw [ej]
        simp only [ndS, List.map_append, List.map_cons, List.map_nil, List.length_append, List.length_singleton]
        simp only [encBox, encBoxO, boxes, mails, ints, intO] at h1 h2 h3 h4 a2 ⊢
        generalize irow gs = rg at *
        generalize irow G = rG at *
        generalize a.map encBox = ra at *
        generalize b.map encBox = rb at *
        generalize out.map encBox = ro at *
        generalize b[q].mails.map encMail = r3 at *
        generalize irow b[q].gone = r4 at *
        simp (maxSteps := 1000000) [spec_JoinBoxes.l2, List.range_succ, bs_get, setAt, hi, q1, h1, h2, h3, h4, e5, e6, eg, a0, a2, eo, ea, eb, List.take_of_length_le]
      | none =>
        exfalso
        have n1 := boxO_none hp
        have n2 := boxO_none hq
        unfold boxIn at n1 n2
        rw [List.find?_eq_none] at n1 n2
        rcases hmem _ (List.getElem_mem hi) with z | z
        · obtain ⟨m, hm, e⟩ := List.mem_map.1 z; exact n1 m hm (by simp [e])
        · obtain ⟨m, hm, e⟩ := List.mem_map.1 z; exact n2 m hm (by simp [e])
end Mx

namespace Mx
open Go
variable {M : Nat → Option Body}
def neO (v : Nat) (L : List Box) (i : Nat) : List (Nat × Ob) := [(59, ⟨v, 7, true, false, (renTo L i).map encBox⟩)]
def neS (v : Nat) (L : List Box) (i k : Nat) (x : Nat) : St := { t := [(10, .c (.row 59 v 0 L.length)), (14, .c (I i)), (15, .c (I k))], o := neO v L i, n := x }
def neF (v : Nat) (L : List Box) (i : Nat) (x : Box) : Option Nat → Nat → Out × St
  | none, m => (.exit 9, { t := [(10, .c (.row 59 v 0 L.length)), (14, .c (I i)), (15, .c (I i)), (130, .c (.bool false))], o := neO v L i, n := m })
  | some _, m => (.exit 9, { t := [(10, .c (.row 59 v 0 L.length)), (14, .c (I i))], o := [(59, ⟨v, 7, true, false, ((renTo L i).map encBox).set i (encBox { x with name := otherName x.name x.gid })⟩)], n := m })
theorem ren_take_at (L : List Box) (i k : Nat) (hk : k < i) (hi : i < L.length) : (renTo L i)[k]'(by rw [renTo_len]; omega) = (ren (L.take i))[k]'(by rw [ren_len]; simp; omega) := by
  simp only [renTo]
  rw [List.getElem_append_left]
set_option maxHeartbeats 2000000 in
theorem ne_loop (kn : spec_OtherName.k M) (v : Nat) (L : List Box) (hL : L.length ≤ 1048576) (hb : ∀ b ∈ L, b.name.length ≤ 1048576 ∧ b.gid ≤ 9223372036854775807) (K i : Nat) (hi : i < L.length) (hK : i < K) :
    ∃ g : Nat → Nat, ∀ x, loopN (exC (run M) K spec_JoinBoxes.l4) K (neS v L i 0 x) = some (neF v L i L[i] (firstN (pAt (fun y : Box => decide (y.name = L[i].name)) (ren (L.take i))) i) (g x)) := by
  have hx := hb _ (List.getElem_mem hi)
  have hrl : (ren (L.take i)).length = i := by rw [ren_len]; simp; omega
  have h2 := spec_OtherName.says kn L[i].name L[i].gid hx.1 hx.2
  have el : ((renTo L i).map encBox).length = L.length := by simp [renTo_len]
  have a1 : ∀ hh, ((renTo L i).map encBox)[i]'hh = encBox L[i] := by
    intro hh; simp only [List.getElem_map, renTo_at L i hi]
  obtain ⟨g, hg⟩ := first_loop (f := exC (run M) K spec_JoinBoxes.l4) i (pAt (fun y : Box => decide (y.name = L[i].name)) (ren (L.take i))) (neS v L i) (neF v L i L[i]) (fun q m => by cases q <;> simp [neF])
    (fun k hk x c => by
      rw [pAt_at _ _ _ (by omega)] at c
      simp only [decide_eq_false_iff_not] at c
      have e5 := wrap1 (i := k) (by omega)
      have hk2 : k < L.length := by omega
      have a2 : ∀ hh, ((renTo L i).map encBox)[k]'hh = encBox ((ren (L.take i))[k]'(by omega)) := by
        intro hh; simp only [List.getElem_map, ren_take_at L i k hk hi]
      simp only [neS, neO]
      simp only [encBox, mails, ints] at a1 a2 ⊢
      generalize (ren (L.take i))[k]'(by omega) = y at *
      generalize (renTo L i).map encBox = rr at *
      generalize L[i] = z at *
      generalize z.mails.map encMail = r1 at *
      generalize irow z.gone = r2 at *
      generalize y.mails.map encMail = r3 at *
      generalize irow y.gone = r4 at *
      simp (maxSteps := 1000000) [spec_JoinBoxes.l4, List.range_succ, bs_get, setAt, hk, hi, hk2, c, e5, el, a1, a2])
    (fun k hk x c => by
      rw [pAt_at _ _ _ (by omega)] at c
      simp only [decide_eq_true_eq] at c
      have hk2 : k < L.length := by omega
      have a2 : ∀ hh, ((renTo L i).map encBox)[k]'hh = encBox ((ren (L.take i))[k]'(by omega)) := by
        intro hh; simp only [List.getElem_map, ren_take_at L i k hk hi]
      simp only [neS, neF, neO]
      simp only [encBox, mails, ints] at a1 a2 ⊢
      generalize (ren (L.take i))[k]'(by omega) = y at *
      generalize (renTo L i).map encBox = rr at *
      generalize L[i] = z at *
      generalize otherName z.name z.gid = nm at *
      generalize z.mails.map encMail = r1 at *
      generalize irow z.gone = r2 at *
      generalize y.mails.map encMail = r3 at *
      generalize irow y.gone = r4 at *
      simp (maxSteps := 1000000) [spec_JoinBoxes.l4, List.range_succ, bs_get, setAt, hk, hi, hk2, c, h2, el, a1, a2])
    (fun x => by
      simp only [neS, neF, neO]
      generalize (renTo L i).map encBox = rr at *
      simp (maxSteps := 1000000) [spec_JoinBoxes.l4, List.range_succ, bs_get, setAt])
  exact ⟨g, fun x => loopN_le (hg x) (by omega)⟩
theorem any_first (p : Box → Bool) (l : List Box) : l.any p = (firstN (pAt p l) l.length).isSome := by
  cases q : firstN (pAt p l) l.length with
  | none =>
    have hn := firstN_none q
    have : l.any p = false := by
      rw [List.any_eq_false]
      intro b hb
      obtain ⟨j, hj, rfl⟩ := List.getElem_of_mem hb
      have := hn j hj
      rw [pAt_at _ _ _ hj] at this
      simp [this]
    rw [this]; rfl
  | some k =>
    obtain ⟨h1, h2, _⟩ := firstN_some q
    rw [pAt_at _ _ _ h1] at h2
    have : l.any p = true := List.any_eq_true.2 ⟨_, List.getElem_mem h1, h2⟩
    rw [this]; rfl
def nfS (v : Nat) (L : List Box) (i : Nat) (x : Nat) : St := { t := [(10, .c (.row 59 v 0 L.length)), (14, .c (I i))], o := neO v L i, n := x }
def nfE (v : Nat) (L : List Box) (x : Nat) : St := { t := [(10, .c (.row 59 v 0 L.length)), (14, .c (I L.length)), (125, .c (.bool false))], o := neO v L L.length, n := x }
theorem nf_loop (kn : spec_OtherName.k M) (v : Nat) (L : List Box) (hL : L.length ≤ 1048576) (hb : ∀ b ∈ L, b.name.length ≤ 1048576 ∧ b.gid ≤ 9223372036854775807) (K : Nat) (hK : L.length < K) (x : Nat) :
    ∃ y, loopN (exC (run M) K spec_JoinBoxes.l3) K (nfS v L 0 x) = some (.exit 7, nfE v L y) := by
  obtain ⟨g, hr⟩ := count_loop (f := exC (run M) K spec_JoinBoxes.l3) L.length (nfS v L) 7 (nfE v L)
    (fun i hi x => by
      obtain ⟨g, hg⟩ := ne_loop kn v L hL hb K i hi (by omega)
      have e5 := wrap1 (i := i) (by omega)
      have hrl : (ren (L.take i)).length = i := by rw [ren_len]; simp; omega
      have hany := any_first (fun y : Box => decide (y.name = L[i].name)) (ren (L.take i))
      rw [hrl] at hany
      have hs := renTo_succ L i hi
      have ez : ((0 : Nat) : Int) = 0 := rfl
      have el : ((renTo L i).map encBox).length = L.length := by simp [renTo_len]
      have a1 : ((renTo L i).map encBox)[i]'(by omega) = encBox L[i] := by
        simp only [List.getElem_map, renTo_at L i hi]
      simp only [nfS, neO, hs, List.map_set]
      simp only [neS, neO, ez] at hg
      unfold renOne
      rw [hany]
      cases hq : firstN (pAt (fun y : Box => decide (y.name = L[i].name)) (ren (L.take i))) i with
      | none =>
        simp only [hq, neF, neO] at hg
        have e11 : ((renTo L i).map encBox).set i (encBox L[i]) = (renTo L i).map encBox := by
          rw [← a1, List.set_getElem_self]
        simp only [Option.isSome_none, Bool.false_eq_true, if_false]
        rw [e11]
        clear a1
        generalize (renTo L i).map encBox = rr at *
        simp (maxSteps := 1000000) [spec_JoinBoxes.l3, List.range_succ, bs_get, setAt, hi, hg, e5]
      | some q =>
        simp only [hq, neF] at hg
        simp only [Option.isSome_some, if_true]
        clear a1
        generalize ((renTo L i).map encBox).set i (encBox { L[i] with name := otherName L[i].name L[i].gid }) = r2 at *
        generalize (renTo L i).map encBox = rr at *
        simp (maxSteps := 1000000) [spec_JoinBoxes.l3, List.range_succ, bs_get, setAt, hi, hg, e5])
    (fun x => by
      simp only [nfS, nfE, neO]
      generalize (renTo L L.length).map encBox = rr at *
      simp (maxSteps := 1000000) [spec_JoinBoxes.l3, List.range_succ, bs_get, setAt])
  exact ⟨_, loopN_le (hr x) (by omega)⟩
theorem stepB_fold (a b : List Box) (G : List Int) : ∀ (gs : List Int) (out : List Box), gs.foldl (stepB a b G) out = out ++ (gs.filter fun g => !decide (g ∈ G)).map (joinB a b)
  | [], out => by simp
  | g :: gs, out => by
    rw [List.foldl_cons, stepB_fold a b G gs, List.filter_cons]
    unfold stepB
    by_cases c : g ∈ G
    · simp [c]
    · simp [c]
def joinBoxesS (a b : List Box) (G : List Int) : List Box := ren (((joinGone (gidsB a) (gidsB b)).filter fun g => !decide (g ∈ G)).map (joinB a b))
theorem joinB_names {a b : List Box} (ha : GoodL a) (hb : GoodL b) (g : Int) : (joinB a b g).name.length ≤ 12 ∧ (joinB a b g).gid ≤ 9999 := by
  have hg : ∀ {c : Box}, Good c → c.name.length ≤ 12 ∧ c.gid ≤ 9999 := fun {c} hc => ⟨(nameOk_len hc.name).2, hc.gid.2⟩
  unfold joinB
  cases hp : boxIn a g with
  | some x =>
    have h1 := hg (ha.good _ (boxIn_some hp).1)
    cases hq : boxIn b g with
    | some y =>
      have h2 := hg (hb.good _ (boxIn_some hq).1)
      simp only [joinBox_gid]
      rcases joinBox_name x y with q | q <;> rw [q]
      · exact h1
      · exact ⟨h2.1, h1.2⟩
    | none => exact h1
  | none =>
    cases hq : boxIn b g with
    | some y => exact hg (hb.good _ (boxIn_some hq).1)
    | none => simp
set_option maxHeartbeats 4000000 in
theorem spec_JoinBoxes.says (h : spec_JoinBoxes.k M) (a b : List Box) (G : List Int) (ha : GoodL a) (hb : GoodL b) (hG : G.length ≤ 4194304) :
    run M 466 [.c (boxes a), .c (boxes b), .c (ints G)] [] = some (.c (.sl true 7 ((joinBoxesS a b G).map encBox)), []) := by
  obtain ⟨h0, kin, kput, kcopy, kjoin, kat, kname⟩ := h
  have K : NdK M := ⟨kin, kcopy, kjoin, kat⟩
  have hla := ha.len
  have hlb := hb.len
  refine run_code (b := spec_JoinBoxes.m) h0 ⟨21, ?_⟩
  have hgl : (gidsB a).length = a.length := by simp [gidsB]
  have hgl2 : (gidsB b).length = b.length := by simp [gidsB]
  obtain ⟨⟨v1, n1⟩, r1⟩ := nb_loop kin kput 21 a b G hla (by omega) (2000016, 2000064)
  have hs1 : (a.foldl (fun s m => gadd s m.gid) []).length ≤ 5 := by
    have := foldl_inv a (fun s m => gadd s m.gid) (fun i s => s.length ≤ i) (fun i h s hs => by have := gadd_le s a[i].gid; omega) [] (by simp)
    omega
  obtain ⟨⟨v2, n2⟩, r2⟩ := nc_loop kin kput 21 a b G hlb (by omega) (a.foldl (fun s m => gadd s m.gid) []) hs1 (v1, n1 + 16)
  have hj : b.foldl (fun s m => gadd s m.gid) (a.foldl (fun s m => gadd s m.gid) []) = joinGone (gidsB a) (gidsB b) := by
    rw [gidsB_fold, gidsB_fold, joinGone, List.foldl_append]
  rw [hj] at r2
  have hgs : (joinGone (gidsB a) (gidsB b)).length ≤ 10 := by
    have := joinGone_le (gidsB a) (gidsB b)
    omega
  have hmem : ∀ g ∈ joinGone (gidsB a) (gidsB b), g ∈ gidsB a ∨ g ∈ gidsB b := fun g hg => (joinGone_mem _ _ _).1 hg
  unfold joinBoxesS
  have hnm : ∀ x ∈ ((joinGone (gidsB a) (gidsB b)).filter fun g => !decide (g ∈ G)).map (joinB a b), x.name.length ≤ 1048576 ∧ x.gid ≤ 9223372036854775807 := fun x hx => by
    obtain ⟨g, _, rfl⟩ := List.mem_map.1 hx
    have := joinB_names ha hb g
    omega
  have hfl := List.length_filter_le (fun g => !decide (g ∈ G)) (joinGone (gidsB a) (gidsB b))
  have eL := stepB_fold a b G (joinGone (gidsB a) (gidsB b)) []
  rw [List.nil_append] at eL
  have hLl : (((joinGone (gidsB a) (gidsB b)).filter fun g => !decide (g ∈ G)).map (joinB a b)).length ≤ 10 := by simp; omega
  obtain ⟨g3, hr3⟩ := fold_loop (f := exC (run M) 21 spec_JoinBoxes.l2) (joinGone (gidsB a) (gidsB b)) (stepB a b G) (fun i s => s.length ≤ i) (ndS a b G (joinGone (gidsB a) (gidsB b)) v2) 4 (ndE a b G (joinGone (gidsB a) (gidsB b)) v2)
    (fun i h s hs => by unfold stepB; split <;> (try simp) <;> omega)
    (fun i hi s x hs => nd_turn K 21 a b ha hb G (joinGone (gidsB a) (gidsB b)) hG (by omega) hmem v2 i hi s hs x)
    (fun s x hs => nd_end 21 a b G (joinGone (gidsB a) (gidsB b)) v2 s x) [] (by simp)
  have r3 := loopN_le (hr3 (n2 + 0, n2 + 48)) (show (joinGone (gidsB a) (gidsB b)).length + 1 ≤ 21 by omega)
  rw [eL] at r3
  generalize g3 (n2 + 0, n2 + 48) = y at *
  obtain ⟨v3, n3⟩ := y
  generalize ((joinGone (gidsB a) (gidsB b)).filter fun g => !decide (g ∈ G)).map (joinB a b) = L at *
  obtain ⟨n4, r4⟩ := nf_loop kname v3 L (by omega) hnm 21 (by omega) (n3 + 16)
  have el : ((ren L).map encBox).length = L.length := by simp [ren_len]
  have eg := irow_length (joinGone (gidsB a) (gidsB b))
  have eg1 := irow_length (a.foldl (fun s m => gadd s m.gid) [])
  have ez : ((0 : Nat) : Int) = 0 := rfl
  simp only [nbS, nbE, ez, irow_nil, List.length_nil] at r1
  simp only [ncS, ncE, ez] at r2
  simp only [ndS, ndE, ez, List.map_nil, List.length_nil, Nat.add_zero] at r3
  simp only [nfS, nfE, neO, renTo_zero, renTo_all, ez] at r4
  clear hnm eL hj hmem hr3
  generalize (ren L).map encBox = R4 at *
  generalize L.map encBox = R3 at *
  generalize L.length = N at *
  generalize (joinGone (gidsB a) (gidsB b)) = gj at *
  generalize (a.foldl (fun s m => gadd s m.gid) []) = ga at *
  simp only [boxes, ints] at *
  generalize irow gj = rgj at *
  generalize irow ga = rga at *
  generalize a.map encBox = ra at *
  generalize b.map encBox = rb at *
  generalize irow G = rg at *
  simp (maxSteps := 1000000) [exB, spec_JoinBoxes.m, spec_JoinBoxes.b, List.range_succ, bs_get, setAt, r1, r2, r3, r4, eg, eg1, el, List.take_of_length_le]
end Mx

namespace Mx
open Go
variable {M : Nat → Option Body}
/-- the Gids of the mails of the first i boxes -/
def seenI (L : List Box) (i : Nat) : List Int := (L.take i).flatMap fun b => gids b.mails
def dedOne (L : List Box) (i : Nat) (x : Box) : Box := { x with mails := x.mails.filter fun m => !decide (m.gid ∈ seenI L i) }
def dedTo (L : List Box) (k : Nat) : List Box := L.mapIdx fun i x => if i < k then dedOne L i x else x
def ded (L : List Box) : List Box := L.mapIdx fun i x => dedOne L i x
theorem dedTo_zero (L : List Box) : dedTo L 0 = L := by unfold dedTo; simp [List.mapIdx_eq_iff]
theorem dedTo_all (L : List Box) : dedTo L L.length = ded L := by
  unfold dedTo ded
  apply List.ext_getElem
  · simp
  · intro i h1 h2; simp at h1 ⊢; intro h; omega
theorem dedTo_len (L : List Box) (k : Nat) : (dedTo L k).length = L.length := by simp [dedTo]
theorem dedTo_at (L : List Box) (k : Nat) (h : k < L.length) : (dedTo L k)[k]'(by rw [dedTo_len]; exact h) = L[k] := by simp [dedTo]
theorem dedTo_succ (L : List Box) (k : Nat) (h : k < L.length) : dedTo L (k + 1) = (dedTo L k).set k (dedOne L k L[k]) := by
  unfold dedTo
  apply List.ext_getElem
  · simp
  · intro i h1 h2
    simp only [List.getElem_mapIdx, List.getElem_set]
    by_cases c : k = i
    · subst c; simp
    · rw [if_neg c]
      by_cases c2 : i < k
      · rw [if_pos c2, if_pos (by omega)]
      · rw [if_neg c2, if_neg (by omega)]
theorem seenI_succ (L : List Box) (i : Nat) (h : i < L.length) : seenI L (i + 1) = seenI L i ++ gids L[i].mails := by
  simp only [seenI, take_snoc L i h, List.flatMap_append, List.flatMap_cons, List.flatMap_nil, List.append_nil]
structure JzC where
  u4 : Nat
  u6 : Nat
  w : Nat
  z : Nat
  who : Int
  time : Int
  gone : List Int
  L : List Box
def jz6 (c : JzC) : List T := [I c.who, I c.time, .row 13300 c.w 0 c.L.length, .row 11900 c.z 0 c.gone.length]
abbrev szero : List T := [I 0, I 0, .nils 7, .nils 1]
structure JzS where
  i : Nat
  v : Nat
  n : Nat
def jz1S (c : JzC) (i : Nat) (x : Box) (seen : List Int) (u9 v : Nat) (j : Nat) (left : List Mail) (y : Nat × Nat) : St := { t := [(4, .c (.ptr 4 c.u4 0 0)), (6, .c (.ptr 6 c.u6 0 0)), (7, .c (.row 35 v 0 seen.length)), (8, .c (I i)), (9, .c (.ptr 9 u9 0 0)), (10, .c (.row 44 y.1 0 left.length)), (37, .c (.row 13300 c.w 0 c.L.length)), (38, .c (I c.L.length)), (39, .c (I i)), (46, .c (mails x.mails)), (47, .c (I x.mails.length)), (48, .c (I j))], o := [(4, ⟨c.u4, 4, true, true, [szero]⟩), (6, ⟨c.u6, 4, true, true, [jz6 c]⟩), (9, ⟨u9, 7, true, true, [encBox x]⟩), (35, ⟨v, 1, true, false, irow seen⟩), (44, ⟨y.1, 4, true, false, left.map encMail⟩), (11900, ⟨c.z, 1, false, false, irow c.gone⟩), (13300, ⟨c.w, 7, true, false, (dedTo c.L i).map encBox⟩)], n := y.2 }
def jz1E (c : JzC) (i : Nat) (x : Box) (seen : List Int) (u9 v : Nat) (left : List Mail) (y : Nat × Nat) : St := { t := [(4, .c (.ptr 4 c.u4 0 0)), (6, .c (.ptr 6 c.u6 0 0)), (7, .c (.row 35 v 0 seen.length)), (8, .c (I i)), (9, .c (.ptr 9 u9 0 0)), (10, .c (.row 44 y.1 0 left.length)), (37, .c (.row 13300 c.w 0 c.L.length)), (38, .c (I c.L.length)), (39, .c (I i)), (46, .c (mails x.mails)), (47, .c (I x.mails.length)), (48, .c (I x.mails.length)), (49, .c (.bool false))], o := [(4, ⟨c.u4, 4, true, true, [szero]⟩), (6, ⟨c.u6, 4, true, true, [jz6 c]⟩), (9, ⟨u9, 7, true, true, [encBox x]⟩), (35, ⟨v, 1, true, false, irow seen⟩), (44, ⟨y.1, 4, true, false, left.map encMail⟩), (11900, ⟨c.z, 1, false, false, irow c.gone⟩), (13300, ⟨c.w, 7, true, false, (dedTo c.L i).map encBox⟩)], n := y.2 }
set_option maxHeartbeats 1000000 in
theorem jz1_loop (kc : slices_Contains_int_int.k M) (k : Nat) (c : JzC) (i : Nat) (x : Box) (seen : List Int) (hseen : seen.length ≤ 4194304) (u9 v : Nat) (hx : x.mails.length ≤ 1048576) (hk : x.mails.length < k) (y : Nat × Nat) :
    ∃ z, loopN (exC (run M) k impl_JoinStore.l1) k (jz1S c i x seen u9 v 0 [] y) = some (.exit 2, jz1E c i x seen u9 v (x.mails.filter fun m => !decide (m.gid ∈ seen)) z) := by
  obtain ⟨g, hr⟩ := fold_loop (f := exC (run M) k impl_JoinStore.l1) x.mails (fun s m => if (!decide (m.gid ∈ seen)) = true then s ++ [m] else s) (fun i s => s.length ≤ i) (jz1S c i x seen u9 v) 2 (jz1E c i x seen u9 v)
    (fun i h s hs => by split <;> (try simp) <;> omega)
    (fun j hj s y hs => by
      obtain ⟨v4, n⟩ := y
      have e5 := wrap1 (i := j) (by omega)
      have e6 : s.length + 1 ≤ 4294967296 := by omega
      have e9 : (s.map encMail).length = s.length := by simp
      have er : (x.mails.map encMail).length = x.mails.length := by simp
      have h1 := slices_Contains_int_int.says kc seen x.mails[j].gid (by omega)
      have eg := irow_length seen
      have a1 : ∀ hh, (x.mails.map encMail)[j]'hh = encMail x.mails[j] := by intro hh; simp
      simp only [Prod.exists]
      by_cases q : x.mails[j].gid ∈ seen
      · rw [decide_eq_true q] at h1
        simp only [q, decide_true, Bool.not_true, Bool.false_eq_true, if_false, jz1S, jz6]
        simp only [encBox, mails, ints, encMail, regs] at a1 h1 ⊢
        generalize x.mails.map encMail = rx at *
        generalize irow seen = rs at *
        generalize (dedTo c.L i).map encBox = rd at *
        generalize s.map encMail = rl at *
        generalize x.mails[j].flags.map encReg = rf at *
        simp (maxSteps := 1000000) [impl_JoinStore.l1, List.range_succ, bs_get, setAt, hj, h1, e5, er, eg, a1, List.take_of_length_le]
      · rw [decide_eq_false q] at h1
        simp only [q, decide_false, Bool.not_false, if_true, jz1S, jz6, List.map_append, List.map_cons, List.map_nil, List.length_append, List.length_singleton]
        simp only [encBox, mails, ints, encMail, regs] at a1 h1 ⊢
        generalize x.mails.map encMail = rx at *
        generalize irow seen = rs at *
        generalize (dedTo c.L i).map encBox = rd at *
        generalize s.map encMail = rl at *
        generalize x.mails[j].flags.map encReg = rf at *
        simp (maxSteps := 1000000) [impl_JoinStore.l1, List.range_succ, bs_get, setAt, hj, h1, e5, e6, e9, er, eg, a1, List.take_of_length_le])
    (fun s y hs => by
      obtain ⟨v4, n⟩ := y
      have er : (x.mails.map encMail).length = x.mails.length := by simp
      simp only [Prod.exists, jz1S, jz1E, jz6, mails]
      generalize x.mails.map encMail = rx at *
      generalize irow seen = rs at *
      generalize (dedTo c.L i).map encBox = rd at *
      generalize s.map encMail = rl at *
      simp (maxSteps := 1000000) [impl_JoinStore.l1, List.range_succ, bs_get, setAt, er]) [] (by simp)
  rw [mfilter_fold] at hr
  exact ⟨_, loopN_le (hr y) (by omega)⟩
def jz2S (c : JzC) (i : Nat) (xm : List Mail) (left : List Mail) (v4 : Nat) (j : Nat) (seen : List Int) (y : Nat × Nat) : St := { t := [(4, .c (.ptr 4 c.u4 0 0)), (6, .c (.ptr 6 c.u6 0 0)), (7, .c (.row 35 y.1 0 seen.length)), (8, .c (I i)), (10, .c (.row 44 v4 0 left.length)), (37, .c (.row 13300 c.w 0 c.L.length)), (38, .c (I c.L.length)), (39, .c (I i)), (63, .c (mails xm)), (64, .c (I xm.length)), (65, .c (I j))], o := [(4, ⟨c.u4, 4, true, true, [szero]⟩), (6, ⟨c.u6, 4, true, true, [jz6 c]⟩), (35, ⟨y.1, 1, true, false, irow seen⟩), (44, ⟨v4, 4, true, false, left.map encMail⟩), (11900, ⟨c.z, 1, false, false, irow c.gone⟩), (13300, ⟨c.w, 7, true, false, (dedTo c.L i).map encBox⟩)], n := y.2 }
def jz2E (c : JzC) (i : Nat) (xm : List Mail) (left : List Mail) (v4 : Nat) (seen : List Int) (y : Nat × Nat) : St := { t := [(4, .c (.ptr 4 c.u4 0 0)), (6, .c (.ptr 6 c.u6 0 0)), (7, .c (.row 35 y.1 0 seen.length)), (8, .c (I i)), (10, .c (.row 44 v4 0 left.length)), (37, .c (.row 13300 c.w 0 c.L.length)), (38, .c (I c.L.length)), (39, .c (I i)), (63, .c (mails xm)), (64, .c (I xm.length)), (65, .c (I xm.length)), (66, .c (.bool false))], o := [(4, ⟨c.u4, 4, true, true, [szero]⟩), (6, ⟨c.u6, 4, true, true, [jz6 c]⟩), (35, ⟨y.1, 1, true, false, irow seen⟩), (44, ⟨v4, 4, true, false, left.map encMail⟩), (11900, ⟨c.z, 1, false, false, irow c.gone⟩), (13300, ⟨c.w, 7, true, false, (dedTo c.L i).map encBox⟩)], n := y.2 }
theorem snoc_fold (l : List Mail) (s : List Int) : l.foldl (fun s m => s ++ [m.gid]) s = s ++ gids l := by
  induction l generalizing s with
  | nil => simp [gids]
  | cons a l ih => rw [List.foldl_cons, ih]; simp [gids]
set_option maxHeartbeats 1000000 in
theorem jz2_loop (k : Nat) (c : JzC) (i : Nat) (xm left : List Mail) (v4 : Nat) (seen : List Int) (hseen : seen.length ≤ 4194304) (hx : xm.length ≤ 1048576) (hk : xm.length < k) (y : Nat × Nat) :
    ∃ z, loopN (exC (run M) k impl_JoinStore.l2) k (jz2S c i xm left v4 0 seen y) = some (.exit 4, jz2E c i xm left v4 (seen ++ gids xm) z) := by
  obtain ⟨g, hr⟩ := fold_loop (f := exC (run M) k impl_JoinStore.l2) xm (fun s m => s ++ [m.gid]) (fun i s => s.length ≤ 4194304 + i) (jz2S c i xm left v4) 4 (jz2E c i xm left v4)
    (fun i h s hs => by simp; omega)
    (fun j hj s y hs => by
      obtain ⟨v, n⟩ := y
      have e5 := wrap1 (i := j) (by omega)
      have e6 : s.length + 1 ≤ 4294967296 := by omega
      have e9 := irow_length s
      have er : (xm.map encMail).length = xm.length := by simp
      have a1 : ∀ hh, (xm.map encMail)[j]'hh = encMail xm[j] := by intro hh; simp
      simp only [Prod.exists, jz2S, jz6, irow_snoc, List.length_append, List.length_singleton]
      simp only [mails, encMail, regs] at a1 ⊢
      generalize xm.map encMail = rx at *
      generalize irow s = rs at *
      generalize (dedTo c.L i).map encBox = rd at *
      generalize left.map encMail = rl at *
      generalize xm[j].flags.map encReg = rf at *
      simp (maxSteps := 1000000) [impl_JoinStore.l2, List.range_succ, bs_get, setAt, hj, e5, e6, e9, er, a1, List.take_of_length_le])
    (fun s y hs => by
      obtain ⟨v, n⟩ := y
      have er : (xm.map encMail).length = xm.length := by simp
      simp only [Prod.exists, jz2S, jz2E, jz6, mails]
      generalize xm.map encMail = rx at *
      generalize irow s = rs at *
      generalize (dedTo c.L i).map encBox = rd at *
      generalize left.map encMail = rl at *
      simp (maxSteps := 1000000) [impl_JoinStore.l2, List.range_succ, bs_get, setAt, er]) seen (by omega)
  rw [snoc_fold] at hr
  exact ⟨_, loopN_le (hr y) (by omega)⟩
end Mx

namespace Mx
open Go
variable {M : Nat → Option Body}
def jz0S (c : JzC) (s : JzS) : St := { t := [(4, .c (.ptr 4 c.u4 0 0)), (6, .c (.ptr 6 c.u6 0 0)), (7, .c (.row 35 s.v 0 (seenI c.L s.i).length)), (37, .c (.row 13300 c.w 0 c.L.length)), (38, .c (I c.L.length)), (39, .c (I s.i))], o := [(4, ⟨c.u4, 4, true, true, [szero]⟩), (6, ⟨c.u6, 4, true, true, [jz6 c]⟩), (35, ⟨s.v, 1, true, false, irow (seenI c.L s.i)⟩), (11900, ⟨c.z, 1, false, false, irow c.gone⟩), (13300, ⟨c.w, 7, true, false, (dedTo c.L s.i).map encBox⟩)], n := s.n }
def jz0E (c : JzC) (s : JzS) : St := { t := [(4, .c (.ptr 4 c.u4 0 0)), (6, .c (.ptr 6 c.u6 0 0)), (7, .c (.row 35 s.v 0 (seenI c.L s.i).length)), (37, .c (.row 13300 c.w 0 c.L.length)), (38, .c (I c.L.length)), (39, .c (I s.i)), (40, .c (.bool false))], o := [(4, ⟨c.u4, 4, true, true, [szero]⟩), (6, ⟨c.u6, 4, true, true, [jz6 c]⟩), (35, ⟨s.v, 1, true, false, irow (seenI c.L s.i)⟩), (11900, ⟨c.z, 1, false, false, irow c.gone⟩), (13300, ⟨c.w, 7, true, false, (dedTo c.L s.i).map encBox⟩)], n := s.n }
theorem seenI_len (L : List Box) (h : ∀ b ∈ L, b.mails.length ≤ 100) : ∀ i, (seenI L i).length ≤ 100 * i
  | 0 => by simp [seenI]
  | i + 1 => by
    have ih := seenI_len L h i
    by_cases c : i < L.length
    · rw [seenI_succ L i c]
      have := h _ (List.getElem_mem c)
      simp only [List.length_append, gids, List.length_map]; omega
    · have : seenI L (i + 1) = seenI L i := by
        simp only [seenI]
        rw [List.take_of_length_le (by omega), List.take_of_length_le (by omega)]
      rw [this]; omega
set_option maxHeartbeats 2000000 in
theorem jz0_turn (kc : slices_Contains_int_int.k M) (k : Nat) (hk : 200 ≤ k) (c : JzC) (hL : c.L.length ≤ 1000) (hb : ∀ b ∈ c.L, b.mails.length ≤ 100) (s : JzS) (hs : s.i < c.L.length) :
    ∃ v' n', exC (run M) k impl_JoinStore.l0 (jz0S c s) = some (.normal, jz0S c ⟨s.i + 1, v', n'⟩) := by
  obtain ⟨i, v, n⟩ := s
  simp only at hs
  have hx := hb _ (List.getElem_mem hs)
  have hsl := seenI_len c.L hb i
  obtain ⟨⟨v4, n4⟩, r1⟩ := jz1_loop kc k c i c.L[i] (seenI c.L i) (by omega) (n + 64) v (by omega) (by omega) (n + 112, n + 208)
  obtain ⟨⟨v5, n5⟩, r2⟩ := jz2_loop (M := M) k c i c.L[i].mails (c.L[i].mails.filter fun m => !decide (m.gid ∈ seenI c.L i)) v4 (seenI c.L i) (by omega) (by omega) (by omega) (v, n4 + 64)
  rw [← seenI_succ c.L i hs] at r2
  have e5 := wrap1 (i := i) (by omega)
  have ez : ((0 : Nat) : Int) = 0 := rfl
  have el : ((dedTo c.L i).map encBox).length = c.L.length := by simp [dedTo_len]
  have a1 : ∀ hh, ((dedTo c.L i).map encBox)[i]'hh = encBox c.L[i] := by
    intro hh; simp only [List.getElem_map, dedTo_at c.L i hs]
  have t3 : (dedTo c.L (i + 1)).map encBox = ((dedTo c.L i).map encBox).set i (encBox (dedOne c.L i c.L[i])) := by rw [dedTo_succ c.L i hs, List.map_set]
  have efl : ((c.L[i].mails.filter fun m => !decide (m.gid ∈ seenI c.L i)).map encMail).length = (c.L[i].mails.filter fun m => !decide (m.gid ∈ seenI c.L i)).length := by simp
  have er : (c.L[i].mails.map encMail).length = c.L[i].mails.length := by simp
  simp only [jz1S, jz1E, ez, List.map_nil, List.length_nil] at r1
  simp only [jz2S, jz2E, ez] at r2
  simp only [jz0S, t3]
  clear t3
  simp only [dedOne, encBox, mails, ints, jz6] at r1 r2 a1 ⊢
  generalize (c.L[i].mails.filter fun m => !decide (m.gid ∈ seenI c.L i)).map encMail = rl at *
  generalize (c.L[i].mails.filter fun m => !decide (m.gid ∈ seenI c.L i)).length = nl at *
  generalize irow (seenI c.L (i + 1)) = rs1 at *
  generalize (seenI c.L (i + 1)).length = ns1 at *
  generalize irow (seenI c.L i) = rs at *
  generalize (seenI c.L i).length = ns at *
  generalize (dedTo c.L i).map encBox = rd at *
  generalize c.L[i] = x at *
  generalize c.L.length = N at *
  generalize x.mails.map encMail = rx at *
  generalize irow x.gone = rg at *
  generalize irow c.gone = rcg at *
  simp (maxSteps := 1000000) [impl_JoinStore.l0, List.range_succ, bs_get, setAt, hs, r1, r2, e5, el, a1, efl, er, List.take_of_length_le]
theorem jz0_end (k : Nat) (c : JzC) (s : JzS) (hs : ¬ s.i < c.L.length) :
    ∃ n', exC (run M) k impl_JoinStore.l0 (jz0S c s) = some (.exit 0, jz0E c ⟨s.i, s.v, n'⟩) := by
  obtain ⟨i, v, n⟩ := s
  simp only at hs
  simp only [jz0S, jz0E, jz6]
  generalize (dedTo c.L i).map encBox = rd at *
  simp (maxSteps := 1000000) [impl_JoinStore.l0, List.range_succ, bs_get, setAt, hs]
end Mx

namespace Mx
open Go
variable {M : Nat → Option Body}
def joinStoreI (a b : Store) : Store := { who := a.who, time := Max.max a.time b.time, boxes := ded (joinBoxesI a.boxes b.boxes (joinGone a.gone b.gone)), gone := joinGone a.gone b.gone }
theorem jz0_loop (kc : slices_Contains_int_int.k M) (k : Nat) (hk : 1200 ≤ k) (c : JzC) (hL : c.L.length ≤ 1000) (hb : ∀ b ∈ c.L, b.mails.length ≤ 100) (v n : Nat) :
    ∃ v' n', loopN (exC (run M) k impl_JoinStore.l0) k (jz0S c ⟨0, v, n⟩) = some (.exit 0, jz0E c ⟨c.L.length, v', n'⟩) := by
  obtain ⟨r, hr, ⟨⟨i, v', n'⟩, rfl, hi⟩⟩ := loop_ex (f := exC (run M) k impl_JoinStore.l0) (jz0S c) (fun s => s.i ≤ c.L.length) (fun s => c.L.length - s.i) (fun r => ∃ s', r = (.exit 0, jz0E c s') ∧ s'.i = c.L.length)
    (fun s hs => by
      by_cases q : s.i < c.L.length
      · left
        obtain ⟨v', n', hh⟩ := jz0_turn kc k (by omega) c hL hb s q
        exact ⟨_, hh, by simp only; omega, by simp only; omega⟩
      · right
        obtain ⟨n', hh⟩ := jz0_end (M := M) k c s q
        exact ⟨_, hh, by simp, _, rfl, by simp only; omega⟩) k ⟨0, v, n⟩ (by simp) (by simp only; omega)
  simp only at hi
  subst hi
  exact ⟨v', n', hr⟩
/-- what a rename leaves -/
theorem ren_mem : ∀ (l acc : List Box) (x : Box), x ∈ l.foldl renStep acc → x ∈ acc ∨ ∃ y ∈ l, x.gid = y.gid ∧ x.mails = y.mails ∧ x.gone = y.gone ∧ (x.name = y.name ∨ x.name = otherName y.name y.gid)
  | [], acc, x, h => .inl h
  | y :: l, acc, x, h => by
    rw [List.foldl_cons] at h
    rcases ren_mem l _ x h with q | ⟨z, hz, q⟩
    · rw [renStep_eq] at q
      rcases List.mem_append.1 q with q | q
      · exact .inl q
      · simp only [List.mem_singleton] at q
        subst q
        right
        refine ⟨y, List.mem_cons_self .., ?_⟩
        unfold renOne
        split
        · exact ⟨rfl, rfl, rfl, .inr rfl⟩
        · exact ⟨rfl, rfl, rfl, .inl rfl⟩
    · exact .inr ⟨z, List.mem_cons_of_mem _ hz, q⟩
theorem otherName_len (s : List UInt8) (g : Int) : (otherName s g).length ≤ 12 := by
  unfold otherName
  split
  · simp; omega
  · simp; omega
structure Small (x : Box) : Prop where
  m : x.mails.length ≤ 20
  g : x.gone.length ≤ 80
  n : x.name.length ≤ 12
  f : ∀ m ∈ x.mails, m.flags.length ≤ 1048576
  d : (gids x.mails).Nodup
theorem Good.small {b : Box} (h : Good b) : Small b := ⟨by have := h.len; omega, by have := h.goneL; omega, (nameOk_len h.name).2, h.inB.f, h.nd⟩
theorem joinBox_small {a b : Box} (ha : Good a) (hb : Good b) : Small (joinBox a b) := by
  have H := ha.joins hb
  have J := again_joins ha hb
  refine ⟨?_, ?_, ?_, (joinBox_in H).f, J.na⟩
  · have := J.all; rw [allM_self] at this; exact this
  · unfold joinBox; split
    · have := joinGone_le a.gone b.gone; have := ha.goneL; have := hb.goneL; simp only; omega
    · have := ha.goneL; omega
  · rcases joinBox_name a b with q | q <;> rw [q]
    · exact (nameOk_len ha.name).2
    · exact (nameOk_len hb.name).2
theorem allB_small {a b : List Box} (ha : GoodL a) (hb : GoodL b) (x : Box) (h : x ∈ allB a b) : Small x := by
  rcases allB_mem x h with q | q | ⟨y, hy, z, hz, _, rfl⟩
  · exact (ha.good x q).small
  · exact (hb.good x q).small
  · exact joinBox_small (ha.good y hy) (hb.good z hz)
theorem joinBoxesI_small {a b : List Box} (ha : GoodL a) (hb : GoodL b) (G : List Int) (x : Box) (h : x ∈ joinBoxesI a b G) : Small x := by
  rcases ren_mem _ _ x h with q | ⟨y, hy, q1, q2, q3, q4⟩
  · simp at q
  · have S := allB_small ha hb y (List.mem_filter.1 (sortBy_mem.1 hy)).1
    refine ⟨by rw [q2]; exact S.m, by rw [q3]; exact S.g, ?_, by rw [q2]; exact S.f, by rw [q2]; exact S.d⟩
    rcases q4 with q | q <;> rw [q]
    · exact S.n
    · exact otherName_len _ _
theorem joinBoxesI_len {a b : List Box} (ha : GoodL a) (hb : GoodL b) (G : List Int) : (joinBoxesI a b G).length ≤ 10 := by
  unfold joinBoxesI
  rw [ren_len, sortBy_len]
  have h1 := List.length_filter_le (fun x : Box => !decide (x.gid ∈ G)) (allB a b)
  have h2 := allB_len a b
  have := ha.len
  have := hb.len
  omega
theorem ded_in (L : List Box) (h : ∀ x ∈ L, Small x) : ∀ x ∈ ded L, BoxIn x := by
  intro x hx
  obtain ⟨i, hi, rfl⟩ := List.getElem_of_mem hx
  simp only [ded, List.length_mapIdx] at hi
  simp only [ded, List.getElem_mapIdx, dedOne]
  have S := h _ (List.getElem_mem hi)
  have hl := List.length_filter_le (fun m : Mail => !decide (m.gid ∈ seenI L i)) L[i].mails
  refine ⟨by have := S.m; simp only; omega, by have := S.g; simp only; omega, by have := S.n; simp only; omega, fun m hm => S.f m (List.mem_filter.1 hm).1⟩
structure StoreGood (s : Store) : Prop where
  boxes : GoodL s.boxes
  gone : s.gone.length ≤ 20
  asc : s.boxes.Pairwise fun x y => x.gid < y.gid
theorem storeOk_good {s : Store} (h : storeOk s = true) : StoreGood s := by
  simp only [storeOk, Bool.and_eq_true, decide_eq_true_eq, Option.isNone_iff_eq_none, firstN_isNone] at h
  obtain ⟨⟨⟨⟨_, _⟩, h3⟩, h4⟩, h5⟩ := h
  have hg := (gidsOk_iff.1 h4).2.2
  have hbad : ∀ i (hi : i < s.boxes.length), boxOk s.boxes[i] = true ∧ ∀ (q : 0 < i), (s.boxes[i - 1]'(by omega)).gid < s.boxes[i].gid := fun i hi => by
    have := h5 i hi
    rw [badAt_at hi, badBox_at hi] at this
    simp at this
    exact ⟨this.1.1.1.1.1, this.1.1.1.1.2⟩
  refine ⟨⟨h3, fun b hb => ?_⟩, by omega, ?_⟩
  · obtain ⟨i, hi, rfl⟩ := List.getElem_of_mem hb
    exact boxOk_iff.1 (hbad i hi).1
  · have hA : Asc (s.boxes.map (·.gid)) := step_asc fun j hj => by
      simp only [List.length_map] at hj
      have := (hbad (j + 1) hj).2 (by omega)
      simpa using this
    exact List.pairwise_map.1 hA
set_option maxHeartbeats 4000000 in
theorem impl_JoinStore.says (h : impl_JoinStore.k M) (a b : Store) (ha : StoreGood a) (hb : StoreGood b) :
    run M 447 [.a (encStore a), .a (encStore b)] [] = some (.a [I a.who, I (Max.max a.time b.time), .sl true 7 ((joinStoreI a b).boxes.map encBox), .sl false 1 (irow (joinStoreI a b).gone)], []) := by
  obtain ⟨h0, kg, kc, kb⟩ := h
  have hga := ha.gone
  have hgb := hb.gone
  have hgj := joinGone_le a.gone b.gone
  have h1 := impl_JoinGone.says kg a.gone b.gone (by omega) (by omega)
  have h2 := impl_JoinBoxes.says kb a.boxes b.boxes (joinGone a.gone b.gone) ha.boxes hb.boxes (by omega)
  have hLl := joinBoxesI_len ha.boxes hb.boxes (joinGone a.gone b.gone)
  have hLs := joinBoxesI_small ha.boxes hb.boxes (joinGone a.gone b.gone)
  simp only [joinStoreI]
  have eg := irow_length (joinGone a.gone b.gone)
  generalize joinGone a.gone b.gone = G at *
  generalize joinBoxesI a.boxes b.boxes G = L at *
  obtain ⟨v1, n1, r1⟩ := jz0_loop kc 1200 (by omega) ⟨2000032, 2000384, 2000352, 2000112, a.who, Max.max a.time b.time, G, L⟩ (by simp only; omega) (fun x hx => by have := (hLs x hx).m; omega) 2000416 2000512
  refine run_code (b := impl_JoinStore.m) h0 ⟨1200, ?_⟩
  have el : (L.map encBox).length = L.length := by simp
  have el2 : ((ded L).map encBox).length = L.length := by simp [ded]
  have ez : ((0 : Nat) : Int) = 0 := rfl
  have es : seenI L 0 = [] := by simp [seenI]
  have em := max_int a.time b.time
  simp only [jz0S, jz0E, jz6, dedTo_zero, dedTo_all, ez, es, irow_nil, List.length_nil] at r1
  generalize hmx : Max.max a.time b.time = mx at *
  clear hmx hLs
  generalize (ded L).map encBox = RD at *
  generalize L.map encBox = RL at *
  generalize L.length = N at *
  generalize irow (seenI L N) = rs at *
  simp only [encStore, boxes, ints] at *
  generalize irow G = rg at *
  generalize G.length = ng at *
  generalize a.boxes.map encBox = ra at *
  generalize b.boxes.map encBox = rb at *
  generalize irow a.gone = ga at *
  generalize irow b.gone = gb at *
  by_cases c : a.time < b.time
  · rw [if_pos c] at em
    subst em
    simp (maxSteps := 1000000) [exB, impl_JoinStore.m, impl_JoinStore.b, List.range_succ, bs_get, setAt, h1, h2, r1, c, el, el2, eg, List.take_of_length_le]
  · rw [if_neg c] at em
    subst em
    simp (maxSteps := 1000000) [exB, impl_JoinStore.m, impl_JoinStore.b, List.range_succ, bs_get, setAt, h1, h2, r1, c, el, el2, eg, List.take_of_length_le]
end Mx

namespace Mx
open Go
variable {M : Nat → Option Body}
def oaS (s : Store) (g : Int) (i : Nat) (x : Nat) : St := { t := [(1, .c (I g)), (2, .c (.ptr 2 2000000 0 0)), (5, .c (I i))], o := [(2, ⟨2000000, 4, true, true, [encStore s]⟩)], n := x }
theorem spec_BoxAt.says (h : spec_BoxAt.k M) (s : Store) (g : Int) (hl : s.boxes.length ≤ 1048576) : run M 196 [.a (encStore s), .c (I g)] [] = some (.c (I (intO (boxO s.boxes g))), []) := by
  refine run_code (b := spec_BoxAt.m) h ⟨s.boxes.length + 1, ?_⟩
  have er : (s.boxes.map encBox).length = s.boxes.length := by simp
  obtain ⟨g', hr⟩ := first_loop (f := exC (run M) (s.boxes.length + 1) spec_BoxAt.l0) s.boxes.length (pAt (fun b : Box => decide (b.gid = g)) s.boxes) (oaS s g) atFin atFin_ne
    (fun i hi x c => by
      rw [pAt_at _ _ _ hi] at c
      simp only [decide_eq_false_iff_not] at c
      have e5 := wrap1 (i := i) (by omega)
      have a1 : ∀ hh, (s.boxes.map encBox)[i]'hh = encBox s.boxes[i] := by intro hh; simp
      simp only [oaS, encStore, boxes, ints]
      simp only [encBox] at a1
      generalize s.boxes.map encBox = rb at *
      simp (maxSteps := 1000000) [spec_BoxAt.l0, List.range_succ, bs_get, setAt, hi, c, e5, er, a1])
    (fun i hi x c => by
      rw [pAt_at _ _ _ hi] at c
      simp only [decide_eq_true_eq] at c
      have a1 : ∀ hh, (s.boxes.map encBox)[i]'hh = encBox s.boxes[i] := by intro hh; simp
      simp only [oaS, encStore, boxes, ints]
      simp only [encBox] at a1
      generalize s.boxes.map encBox = rb at *
      simp (maxSteps := 1000000) [spec_BoxAt.l0, List.range_succ, bs_get, setAt, hi, c, er, a1, atFin]
      exact ⟨⟨[], [], _⟩, rfl⟩)
    (fun x => by
      simp only [oaS, encStore, boxes, ints]
      generalize s.boxes.map encBox = rb at *
      simp (maxSteps := 1000000) [spec_BoxAt.l0, List.range_succ, bs_get, setAt, er, atFin])
  unfold boxO
  cases hm : firstN (pAt (fun b : Box => decide (b.gid = g)) s.boxes) s.boxes.length with
  | none =>
    simp [oaS, hm, atFin] at hr
    simp only [encStore, boxes, ints] at *
    simp (maxSteps := 1000000) [exB, spec_BoxAt.m, spec_BoxAt.b, List.range_succ, bs_get, setAt, hr, intO]
  | some k =>
    simp [oaS, hm, atFin] at hr
    simp only [encStore, boxes, ints] at *
    simp (maxSteps := 1000000) [exB, spec_BoxAt.m, spec_BoxAt.b, List.range_succ, bs_get, setAt, hr, intO]
theorem spec_NextStamp.says (h : spec_NextStamp.k M) (s : Store) (hs : -1000000000 ≤ s.time ∧ s.time ≤ 1000000000) : run M 301 [.a (encStore s)] [] = some (.a [I (s.time + 1), I s.who], []) := by
  refine run_code (b := spec_NextStamp.m) h ⟨0, ?_⟩
  have e5 : IntKind.i64.wrap (s.time + 1) = s.time + 1 := wrap_i64 (by omega) (by omega)
  simp only [encStore, boxes, ints]
  simp (maxSteps := 1000000) [exB, spec_NextStamp.m, spec_NextStamp.b, List.range_succ, bs_get, setAt, e5]
def obO (s : Store) (i v : Nat) : List (Nat × Ob) := [(1, ⟨2000000, 4, true, true, [encStore s]⟩), (2, ⟨2000016, 4, true, true, [szero]⟩), (3, ⟨2000048, 4, true, true, [[I s.who, I s.time, .row 6 v 0 i, ints s.gone]]⟩), (6, ⟨v, 7, true, false, (s.boxes.take i).map encBox⟩)]
def obS (s : Store) (i : Nat) (x : Nat × Nat) : St := { t := [(1, .c (.ptr 1 2000000 0 0)), (2, .c (.ptr 2 2000016 0 0)), (3, .c (.ptr 3 2000048 0 0)), (4, .c (I i))], o := obO s i x.1, n := x.2 }
def obE (s : Store) (x : Nat × Nat) : St := { t := [(1, .c (.ptr 1 2000000 0 0)), (2, .c (.ptr 2 2000016 0 0)), (3, .c (.ptr 3 2000048 0 0)), (4, .c (I s.boxes.length)), (12, .c (.bool false))], o := obO s s.boxes.length x.1, n := x.2 }
set_option maxHeartbeats 1000000 in
theorem spec_l07Copy.says (h : spec_l07Copy.k M) (s : Store) (hs : StoreIn s) : run M 219 [.a (encStore s)] [] = some (.a (encStoreO s), []) := by
  obtain ⟨h0, k1⟩ := h
  have hbl := hs.b
  have hgl := hs.g
  refine run_code (b := spec_l07Copy.m) h0 ⟨s.boxes.length + 1, ?_⟩
  have er : (s.boxes.map encBox).length = s.boxes.length := by simp
  obtain ⟨g, hr⟩ := count_loop (f := exC (run M) (s.boxes.length + 1) spec_l07Copy.l0) s.boxes.length (obS s) 0 (obE s)
    (fun i hi x => by
      obtain ⟨v, n⟩ := x
      have h2 := spec_l06Copy.says k1 s.boxes[i] (hs.i _ (List.getElem_mem hi))
      have e5 := wrap1 (i := i) (by omega)
      have e6 : i + 1 ≤ 4294967296 := by omega
      have e7 : ((s.boxes.take i).map encBox).length = i := by simp; omega
      have e8 : ((s.boxes.take (i + 1)).map encBox) = (s.boxes.take i).map encBox ++ [encBox s.boxes[i]] := by rw [take_snoc _ _ hi, List.map_append]; rfl
      have a1 : ∀ hh, (s.boxes.map encBox)[i]'hh = encBox s.boxes[i] := by intro hh; simp
      simp only [Prod.exists, obS, obO, e8, encStore, boxes, ints]
      simp only [encBox, encBoxO, mails, ints] at h2 a1 ⊢
      generalize (s.boxes.take i).map encBox = rr at *
      generalize s.boxes.map encBox = rb at *
      generalize s.boxes[i].mails.map encMail = rm at *
      generalize irow s.boxes[i].gone = rg at *
      generalize irow s.gone = rs at *
      simp (maxSteps := 1000000) [spec_l07Copy.l0, List.range_succ, bs_get, setAt, hi, h2, e5, e6, e7, er, a1, List.take_of_length_le])
    (fun x => by
      obtain ⟨v, n⟩ := x
      simp only [Prod.exists, obS, obE, obO, encStore, boxes, ints]
      generalize (s.boxes.take s.boxes.length).map encBox = rr at *
      generalize s.boxes.map encBox = rb at *
      generalize irow s.gone = rs at *
      simp (maxSteps := 1000000) [spec_l07Copy.l0, List.range_succ, bs_get, setAt, er])
  have hr0 := hr (2000080, 2000144)
  generalize g (2000080, 2000144) = y at *
  obtain ⟨v, n⟩ := y
  have ez : ((0 : Nat) : Int) = 0 := rfl
  have eg := irow_length s.gone
  have e9 : s.gone.length ≤ 4294967296 := by omega
  simp only [obS, obE, obO, ez, List.take_zero, List.map_nil, List.take_length, encStore, boxes, ints] at hr0
  simp only [encStore, encStoreO, boxes, ints]
  generalize s.boxes.map encBox = rb at *
  generalize irow s.gone = rs at *
  simp (maxSteps := 1000000) [exB, spec_l07Copy.m, spec_l07Copy.b, List.range_succ, bs_get, setAt, hr0, er, eg, e9, List.take_of_length_le]
def knowsB (b : Box) (g : Int) : Bool := (mailO b.mails g).isSome || decide (g ∈ b.gone)
def knows (s : Store) (g : Int) : Bool := (boxO s.boxes g).isSome || decide (g ∈ s.gone) || s.boxes.any fun b => knowsB b g
def ocS (s : Store) (g : Int) (i : Nat) (x : Nat) : St := { t := [(1, .c (I g)), (2, .c (.ptr 2 2000000 0 0)), (5, .c (I i))], o := [(2, ⟨2000000, 4, true, true, [encStore s]⟩)], n := x }
def ocE (s : Store) (g : Int) (x : Nat) : St := { t := [(1, .c (I g)), (2, .c (.ptr 2 2000000 0 0)), (5, .c (I s.boxes.length)), (20, .c (.bool false))], o := [(2, ⟨2000000, 4, true, true, [encStore s]⟩)], n := x }
theorem any_first2 (p : Box → Bool) (l : List Box) : l.any p = (firstN (pAt p l) l.length).isSome := by
  cases q : firstN (pAt p l) l.length with
  | none =>
    have hn := firstN_none q
    have : l.any p = false := by
      rw [List.any_eq_false]
      intro b hb
      obtain ⟨j, hj, rfl⟩ := List.getElem_of_mem hb
      have := hn j hj
      rw [pAt_at _ _ _ hj] at this
      simp [this]
    rw [this]; rfl
  | some k =>
    obtain ⟨h1, h2, _⟩ := firstN_some q
    rw [pAt_at _ _ _ h1] at h2
    have : l.any p = true := List.any_eq_true.2 ⟨_, List.getElem_mem h1, h2⟩
    rw [this]; rfl
theorem intO_nonneg (q : Option Nat) : decide ((0 : Int) ≤ intO q) = q.isSome := by
  cases q with
  | none => rfl
  | some k => exact decide_eq_true (Int.natCast_nonneg k)
set_option maxHeartbeats 2000000 in
theorem spec_Knows.says (h : spec_Knows.k M) (s : Store) (g : Int) (hs : StoreIn s) : run M 300 [.a (encStore s), .c (I g)] [] = some (.c (.bool (knows s g)), []) := by
  obtain ⟨h0, ka, ki, kb⟩ := h
  have hbl := hs.b
  have hgl := hs.g
  have h1 := spec_BoxAt.says kb s g hbl
  have h2 := spec_l06In.says ki s.gone g (by omega)
  refine run_code (b := spec_Knows.m) h0 ⟨s.boxes.length + 1, ?_⟩
  have er : (s.boxes.map encBox).length = s.boxes.length := by simp
  obtain ⟨g', hr⟩ := early_loop (f := exC (run M) (s.boxes.length + 1) spec_Knows.l0) s.boxes.length (pAt (fun b => knowsB b g) s.boxes) (ocS s g) 4 (.bool true) 0 (ocE s g)
    (fun i hi x c => by
      rw [pAt_at _ _ _ hi] at c
      have hb := hs.i _ (List.getElem_mem hi)
      have h3 := spec_MailAt.says ka s.boxes[i] g hb.m
      have h4 := spec_l06In.says ki s.boxes[i].gone g (by have := hb.g; omega)
      have e5 := wrap1 (i := i) (by omega)
      have a1 : ∀ hh, (s.boxes.map encBox)[i]'hh = encBox s.boxes[i] := by intro hh; simp
      unfold knowsB at c
      simp only [Bool.or_eq_false_iff] at c
      obtain ⟨c1, c2⟩ := c
      rw [c2] at h4
      have c3 : ¬ (0 : Int) ≤ intO (mailO s.boxes[i].mails g) := by
        have := intO_nonneg (mailO s.boxes[i].mails g)
        rw [c1] at this; simpa using this
      simp only [ocS, encStore, boxes, ints]
      simp only [encBox, mails, ints] at h3 h4 a1
      generalize intO (mailO s.boxes[i].mails g) = z at *
      generalize s.boxes.map encBox = rb at *
      generalize s.boxes[i].mails.map encMail = rm at *
      generalize irow s.boxes[i].gone = rg at *
      simp (maxSteps := 1000000) [spec_Knows.l0, List.range_succ, bs_get, setAt, hi, h3, h4, c3, e5, er, a1, List.take_of_length_le])
    (fun i hi x c => by
      rw [pAt_at _ _ _ hi] at c
      have hb := hs.i _ (List.getElem_mem hi)
      have h3 := spec_MailAt.says ka s.boxes[i] g hb.m
      have h4 := spec_l06In.says ki s.boxes[i].gone g (by have := hb.g; omega)
      have a1 : ∀ hh, (s.boxes.map encBox)[i]'hh = encBox s.boxes[i] := by intro hh; simp
      unfold knowsB at c
      have c3 := intO_nonneg (mailO s.boxes[i].mails g)
      simp only [ocS, encStore, boxes, ints]
      simp only [encBox, mails, ints] at h3 h4 a1
      generalize intO (mailO s.boxes[i].mails g) = z at *
      generalize (mailO s.boxes[i].mails g).isSome = w at *
      generalize decide (g ∈ s.boxes[i].gone) = w2 at *
      generalize s.boxes.map encBox = rb at *
      generalize s.boxes[i].mails.map encMail = rm at *
      generalize irow s.boxes[i].gone = rg at *
      cases w
      · simp only [decide_eq_false_iff_not] at c3
        simp only [Bool.false_or] at c
        subst c
        simp (maxSteps := 1000000) [spec_Knows.l0, List.range_succ, bs_get, setAt, hi, h3, h4, c3, er, a1, List.take_of_length_le]
      · simp only [decide_eq_true_eq] at c3
        simp (maxSteps := 1000000) [spec_Knows.l0, List.range_succ, bs_get, setAt, hi, h3, c3, er, a1, List.take_of_length_le])
    (fun x => by
      simp only [ocS, ocE, encStore, boxes, ints]
      generalize s.boxes.map encBox = rb at *
      simp (maxSteps := 1000000) [spec_Knows.l0, List.range_succ, bs_get, setAt, er])
  have hany := any_first2 (fun b => knowsB b g) s.boxes
  have c0 := intO_nonneg (boxO s.boxes g)
  unfold knows
  rw [hany]
  generalize (boxO s.boxes g).isSome = w1 at *
  generalize intO (boxO s.boxes g) = z at *
  generalize decide (g ∈ s.gone) = w2 at *
  have ez : ((0 : Nat) : Int) = 0 := rfl
  cases w1
  · simp only [decide_eq_false_iff_not] at c0
    cases w2
    · cases hq : firstN (pAt (fun b => knowsB b g) s.boxes) s.boxes.length with
      | none =>
        simp only [ocS, ocE, hq, fin1, ez] at hr
        simp only [encStore, boxes, ints] at *
        simp (maxSteps := 1000000) [exB, spec_Knows.m, spec_Knows.b, List.range_succ, bs_get, setAt, h1, h2, c0, hr, List.take_of_length_le]
      | some q =>
        simp only [ocS, hq, fin1, ez] at hr
        simp only [encStore, boxes, ints] at *
        simp (maxSteps := 1000000) [exB, spec_Knows.m, spec_Knows.b, List.range_succ, bs_get, setAt, h1, h2, c0, hr, List.take_of_length_le]
    · simp only [encStore, boxes, ints] at *
      simp (maxSteps := 1000000) [exB, spec_Knows.m, spec_Knows.b, List.range_succ, bs_get, setAt, h1, h2, c0, List.take_of_length_le]
  · simp only [decide_eq_true_eq] at c0
    simp only [encStore, boxes, ints] at *
    simp (maxSteps := 1000000) [exB, spec_Knows.m, spec_Knows.b, List.range_succ, bs_get, setAt, h1, c0, List.take_of_length_le]
end Mx

namespace Mx
open Go
variable {M : Nat → Option Body}
theorem addMail_in {b : Box} (hb : BoxIn b) (g f : Int) (x : List UInt8) (t w : Int) : BoxIn (addMail b g f x t w).1 := by
  unfold addMail
  split
  · rename_i c
    exact (boxOk_iff.1 c.2.2.2.2).inB
  · exact hb
theorem flagMail_in {b : Box} (hb : BoxIn b) (g n t w : Int) : BoxIn (flagMail b g n t w).1 := by
  unfold flagMail
  split
  · exact hb
  · split
    · exact hb
    · rename_i k hk m hm
      split
      · refine ⟨by simpa using hb.m, hb.g, hb.n, fun m' hm' => ?_⟩
        obtain ⟨j, hj, rfl⟩ := List.getElem_of_mem hm'
        simp only [List.getElem_set]
        split
        · have e : (setFlags m.flags n t w).length = m.flags.length := by unfold setFlags; split <;> simp
          simp only [e]
          exact hb.f m (List.mem_of_getElem? hm)
        · exact hb.f _ (List.getElem_mem _)
      · exact hb
end Mx

namespace Mx
open Go
variable {M : Nat → Option Body}
def stampedTo (s : Store) (i : Nat) (b : Box) : Store := { s with boxes := s.boxes.set i b, time := s.time + 1 }
def stamped (s : Store) (i : Nat) (b : Box) : Store × Bool := if storeOk (stampedTo s i b) = true then (stampedTo s i b, true) else (s, false)
/-- what is asked of a store that something is done in -/
structure StoreT (s : Store) : Prop where
  in_ : StoreIn s
  time : -1000000000 ≤ s.time ∧ s.time ≤ 1000000000
theorem stampedTo_in {s : Store} (hs : StoreIn s) {i : Nat} (hi : i < s.boxes.length) {b : Box} (hb : BoxIn b) (hm : (s.boxes.flatMap gidsOf).length + b.mails.length ≤ 1048576) : StoreIn (stampedTo s i b) := by
  refine ⟨by simpa [stampedTo] using hs.b, hs.g, fun x hx => ?_, ?_⟩
  · rcases List.mem_or_eq_of_mem_set hx with q | q
    · exact hs.i x q
    · rw [q]; exact hb
  · have e : s.boxes.set i b = s.boxes.take i ++ b :: s.boxes.drop (i + 1) := List.set_eq_take_append_cons_drop.trans (by rw [if_pos hi])
    simp only [stampedTo]
    rw [e]
    have hsub : ((s.boxes.take i).flatMap gidsOf).length + ((s.boxes.drop (i + 1)).flatMap gidsOf).length ≤ (s.boxes.flatMap gidsOf).length := by
      conv => rhs; rw [← List.take_append_drop i s.boxes, List.drop_eq_getElem_cons hi]
      simp only [List.flatMap_append, List.flatMap_cons, List.length_append]
      omega
    simp only [List.flatMap_append, List.flatMap_cons, List.length_append, gidsOf, List.length_map] at hsub hm ⊢
    omega
set_option maxHeartbeats 2000000 in
theorem spec_l07Stamped.says (h : spec_l07Stamped.k M) (s : Store) (hs : StoreT s) (i : Nat) (hi : i < s.boxes.length) (b : Box) (hb : BoxIn b) (hm : (s.boxes.flatMap gidsOf).length + b.mails.length ≤ 1048576) :
    run M 302 [.a (encStore s), .c (I i), .a (encBox b)] [] = some (.tup [.a (encStoreO (stamped s i b).1), .c (.bool (stamped s i b).2)], []) := by
  obtain ⟨h0, ko, kc⟩ := h
  have ht := hs.time
  have h1 := spec_l07Copy.says kc s hs.in_
  have h2 := spec_StoreOk.says ko (stampedTo s i b) (stampedTo_in hs.in_ hi hb hm)
  refine run_code (b := spec_l07Stamped.m) h0 ⟨0, ?_⟩
  have e5 : IntKind.i64.wrap (s.time + 1) = s.time + 1 := wrap_i64 (by omega) (by omega)
  have er : (s.boxes.map encBox).length = s.boxes.length := by simp
  have eg := irow_length s.gone
  have es : (stampedTo s i b).boxes.map encBox = (s.boxes.map encBox).set i (encBox b) := by simp only [stampedTo, List.map_set]
  have ew : (stampedTo s i b).who = s.who := rfl
  have et : (stampedTo s i b).time = s.time + 1 := rfl
  have egn : (stampedTo s i b).gone = s.gone := rfl
  have a1 : ∀ hh, (s.boxes.map encBox)[i]'hh = encBox s.boxes[i] := by intro hh; simp
  unfold stamped
  cases c : storeOk (stampedTo s i b) with
  | true =>
    rw [c] at h2
    rw [if_pos rfl]
    simp only [encStore, encStoreO, boxes, ints, es, ew, et, egn] at h1 h2 ⊢
    clear es c
    simp only [encBox, mails, ints] at h2 a1 ⊢
    generalize s.boxes.map encBox = rb at *
    generalize irow s.gone = rs at *
    generalize s.boxes[i].mails.map encMail = r1 at *
    generalize irow s.boxes[i].gone = r2 at *
    generalize b.mails.map encMail = r3 at *
    generalize irow b.gone = r4 at *
    simp (maxSteps := 1000000) [exB, spec_l07Stamped.m, spec_l07Stamped.b, List.range_succ, bs_get, setAt, hi, h1, h2, e5, er, eg, a1, List.take_of_length_le]
  | false =>
    rw [c] at h2
    rw [if_neg (by decide)]
    simp only [encStore, encStoreO, boxes, ints, es, ew, et, egn] at h1 h2 ⊢
    clear es c
    simp only [encBox, mails, ints] at h2 a1 ⊢
    generalize s.boxes.map encBox = rb at *
    generalize irow s.gone = rs at *
    generalize s.boxes[i].mails.map encMail = r1 at *
    generalize irow s.boxes[i].gone = r2 at *
    generalize b.mails.map encMail = r3 at *
    generalize irow b.gone = r4 at *
    simp (maxSteps := 1000000) [exB, spec_l07Stamped.m, spec_l07Stamped.b, List.range_succ, bs_get, setAt, hi, h1, h2, e5, er, eg, a1, List.take_of_length_le]
end Mx

namespace Mx
open Go
variable {M : Nat → Option Body}
def at_ (s : Store) (g : Int) (f : Nat → Box → Store × Bool) : Store × Bool := match boxO s.boxes g with
  | none => (s, false)
  | some i => match s.boxes[i]? with
    | none => (s, false)
    | some b => f i b
theorem at_none {s : Store} {g : Int} {f : Nat → Box → Store × Bool} (h : boxO s.boxes g = none) : at_ s g f = (s, false) := by simp only [at_, h]
theorem at_some {s : Store} {g : Int} {f : Nat → Box → Store × Bool} {i : Nat} (h : boxO s.boxes g = some i) (hi : i < s.boxes.length) : at_ s g f = f i s.boxes[i] := by simp only [at_, h, List.getElem?_eq_getElem hi]
def putMail (s : Store) (g m f : Int) (x : List UInt8) : Store × Bool := if storeOk s = true ∧ knows s m = false then at_ s g fun i b => if (addMail b m f x (s.time + 1) s.who).2 = true then stamped s i (addMail b m f x (s.time + 1) s.who).1 else (s, false) else (s, false)
def markMail (s : Store) (g m f : Int) : Store × Bool := if storeOk s = true then at_ s g fun i b => if (flagMail b m f (s.time + 1) s.who).2 = true then stamped s i (flagMail b m f (s.time + 1) s.who).1 else (s, false) else (s, false)
def dropMail (s : Store) (g m : Int) : Store × Bool := if storeOk s = true then at_ s g fun i b => if (takeOut b m).2 = true then ({ s with boxes := s.boxes.set i (takeOut b m).1 }, true) else (s, false) else (s, false)
theorem good_gids {s : Store} (h : storeOk s = true) : (s.boxes.flatMap gidsOf).length ≤ 50 := by
  have G := (storeOk_good h).boxes
  have key : ∀ l : List Box, (∀ x ∈ l, x.mails.length ≤ 10) → (l.flatMap gidsOf).length ≤ 10 * l.length := by
    intro l
    induction l with
    | nil => intro _; simp
    | cons x l ih =>
      intro h
      have h1 := ih fun y hy => h y (List.mem_cons_of_mem _ hy)
      have h2 := h x (List.mem_cons_self ..)
      simp only [List.flatMap_cons, List.length_append, gidsOf, List.length_map, List.length_cons] at h1 ⊢
      omega
  have := key s.boxes fun x hx => (G.good x hx).len
  have := G.len
  omega
theorem addMail_small {b : Box} (hb : Good b) (g f : Int) (x : List UInt8) (t w : Int) : (addMail b g f x t w).1.mails.length ≤ 11 := by
  unfold addMail
  split
  · rename_i c
    exact Nat.le_trans (boxOk_iff.1 c.2.2.2.2).len (by omega)
  · have := hb.len; simp only; omega
theorem flagMail_small {b : Box} (hb : Good b) (g n t w : Int) : (flagMail b g n t w).1.mails.length ≤ 11 := by
  have := hb.len
  unfold flagMail
  split
  · simp only; omega
  · split
    · simp only; omega
    · split
      · simp only [List.length_set]; omega
      · simp only; omega
set_option maxHeartbeats 4000000 in
theorem spec_PutMail.says (h : spec_PutMail.k M) (s : Store) (hs : StoreT s) (g m f : Int) (x : List UInt8) :
    run M 279 [.a (encStore s), .c (I g), .c (I m), .c (I f), .c (S x)] [] = some (.tup [.a (encStoreO (putMail s g m f x).1), .c (.bool (putMail s g m f x).2)], []) := by
  obtain ⟨h0, ka, ko, kb, kc, kk, kn, kst⟩ := h
  have h1 := spec_BoxAt.says kb s g hs.in_.b
  have h2 := spec_StoreOk.says ko s hs.in_
  have h3 := spec_Knows.says kk s m hs.in_
  have h4 := spec_l07Copy.says kc s hs.in_
  have h5 := spec_NextStamp.says kn s hs.time
  have er : (s.boxes.map encBox).length = s.boxes.length := by simp
  have eg := irow_length s.gone
  refine run_code (b := spec_PutMail.m) h0 ⟨0, ?_⟩
  unfold putMail
  cases c1 : storeOk s with
  | false =>
    rw [c1] at h2
    simp only [Bool.false_eq_true, false_and, if_false]
    simp only [encStore, encStoreO, boxes, ints] at *
    generalize s.boxes.map encBox = rb at *
    generalize irow s.gone = rs at *
    simp (maxSteps := 1000000) [exB, spec_PutMail.m, spec_PutMail.b, List.range_succ, bs_get, setAt, h1, h2, h4, er, eg, List.take_of_length_le]
  | true =>
    rw [c1] at h2
    cases c2 : knows s m with
    | true =>
      rw [c2] at h3
      simp only [Bool.true_eq_false, and_false, if_false]
      simp only [encStore, encStoreO, boxes, ints] at *
      generalize s.boxes.map encBox = rb at *
      generalize irow s.gone = rs at *
      simp (maxSteps := 1000000) [exB, spec_PutMail.m, spec_PutMail.b, List.range_succ, bs_get, setAt, h1, h2, h3, h4, er, eg, List.take_of_length_le]
    | false =>
      rw [c2] at h3
      rw [if_pos ⟨rfl, rfl⟩]
      cases c3 : boxO s.boxes g with
      | none =>
        rw [c3] at h1
        rw [at_none c3]
        simp only [encStore, encStoreO, boxes, ints, intO] at *
        generalize s.boxes.map encBox = rb at *
        generalize irow s.gone = rs at *
        simp (maxSteps := 1000000) [exB, spec_PutMail.m, spec_PutMail.b, List.range_succ, bs_get, setAt, h1, h2, h3, h4, er, eg, List.take_of_length_le]
      | some i =>
        rw [c3] at h1
        obtain ⟨hi, _⟩ := boxO_some c3
        rw [at_some c3 hi]
        have hG := (storeOk_good c1).boxes.good _ (List.getElem_mem hi)
        have h6 := spec_AddMail.says ka s.boxes[i] hG.inB m f x (s.time + 1) s.who
        have hin := addMail_in hG.inB m f x (s.time + 1) s.who
        have h7 := spec_l07Stamped.says kst s hs i hi (addMail s.boxes[i] m f x (s.time + 1) s.who).1 hin (by have := good_gids c1; have := addMail_small hG m f x (s.time + 1) s.who; omega)
        have a1 : ∀ hh, (s.boxes.map encBox)[i]'hh = encBox s.boxes[i] := by intro hh; simp
        have ni : ¬ (i : Int) < 0 := by omega
        generalize addMail s.boxes[i] m f x (s.time + 1) s.who = A at *
        obtain ⟨b', ok⟩ := A
        generalize stamped s i b' = B at *
        obtain ⟨s', ok'⟩ := B
        have er2 : (s'.boxes.map encBox).length = s'.boxes.length := by simp
        have eg2 := irow_length s'.gone
        simp only [encStore, encStoreO, boxes, ints, intO] at h1 h2 h3 h4 h5 h7 ⊢
        simp only [encBox, encBoxO, mails, ints] at h6 h7 a1
        generalize hrb : s.boxes.map encBox = rb at *
        generalize hrs : irow s.gone = rs at *
        generalize s.boxes[i].mails.map encMail = r1 at *
        generalize irow s.boxes[i].gone = r2 at *
        generalize b'.mails.map encMail = r3 at *
        generalize irow b'.gone = r4 at *
        cases ok
        · simp only [Bool.false_eq_true, if_false]
          simp (maxSteps := 1000000) [exB, spec_PutMail.m, spec_PutMail.b, List.range_succ, bs_get, setAt, hi, ni, h1, h2, h3, h4, h5, h6, er, eg, a1, List.take_of_length_le]
          exact ⟨hrb.symm, hrs.symm⟩
        · simp only [if_true]
          generalize s'.boxes.map encBox = rb' at *
          generalize irow s'.gone = rs' at *
          simp (maxSteps := 1000000) [exB, spec_PutMail.m, spec_PutMail.b, List.range_succ, bs_get, setAt, hi, ni, h1, h2, h3, h4, h5, h6, h7, er, eg, er2, eg2, a1, List.take_of_length_le]
end Mx

namespace Mx
open Go
variable {M : Nat → Option Body}
set_option maxHeartbeats 4000000 in
theorem spec_MarkMail.says (h : spec_MarkMail.k M) (s : Store) (hs : StoreT s) (g m f : Int) :
    run M 280 [.a (encStore s), .c (I g), .c (I m), .c (I f)] [] = some (.tup [.a (encStoreO (markMail s g m f).1), .c (.bool (markMail s g m f).2)], []) := by
  obtain ⟨h0, ka, ko, kb, kc, kn, kst⟩ := h
  have h1 := spec_BoxAt.says kb s g hs.in_.b
  have h2 := spec_StoreOk.says ko s hs.in_
  have h4 := spec_l07Copy.says kc s hs.in_
  have h5 := spec_NextStamp.says kn s hs.time
  have er : (s.boxes.map encBox).length = s.boxes.length := by simp
  have eg := irow_length s.gone
  refine run_code (b := spec_MarkMail.m) h0 ⟨0, ?_⟩
  unfold markMail
  cases c1 : storeOk s with
  | false =>
    rw [c1] at h2
    simp only [Bool.false_eq_true, if_false]
    simp only [encStore, encStoreO, boxes, ints] at *
    generalize s.boxes.map encBox = rb at *
    generalize irow s.gone = rs at *
    simp (maxSteps := 1000000) [exB, spec_MarkMail.m, spec_MarkMail.b, List.range_succ, bs_get, setAt, h1, h2, h4, er, eg, List.take_of_length_le]
  | true =>
    rw [c1] at h2
    rw [if_pos rfl]
    cases c3 : boxO s.boxes g with
    | none =>
      rw [c3] at h1
      rw [at_none c3]
      simp only [encStore, encStoreO, boxes, ints, intO] at *
      generalize s.boxes.map encBox = rb at *
      generalize irow s.gone = rs at *
      simp (maxSteps := 1000000) [exB, spec_MarkMail.m, spec_MarkMail.b, List.range_succ, bs_get, setAt, h1, h2, h4, er, eg, List.take_of_length_le]
    | some i =>
      rw [c3] at h1
      obtain ⟨hi, _⟩ := boxO_some c3
      rw [at_some c3 hi]
      have hG := (storeOk_good c1).boxes.good _ (List.getElem_mem hi)
      have h6 := spec_FlagMail.says ka s.boxes[i] hG.inB m f (s.time + 1) s.who
      have hin := flagMail_in hG.inB m f (s.time + 1) s.who
      have h7 := spec_l07Stamped.says kst s hs i hi (flagMail s.boxes[i] m f (s.time + 1) s.who).1 hin (by have := good_gids c1; have := flagMail_small hG m f (s.time + 1) s.who; omega)
      have a1 : ∀ hh, (s.boxes.map encBox)[i]'hh = encBox s.boxes[i] := by intro hh; simp
      have ni : ¬ (i : Int) < 0 := by omega
      generalize flagMail s.boxes[i] m f (s.time + 1) s.who = A at *
      obtain ⟨b', ok⟩ := A
      generalize stamped s i b' = B at *
      obtain ⟨s', ok'⟩ := B
      have er2 : (s'.boxes.map encBox).length = s'.boxes.length := by simp
      have eg2 := irow_length s'.gone
      simp only [encStore, encStoreO, boxes, ints, intO] at h1 h2 h4 h5 h7 ⊢
      simp only [encBox, encBoxO, mails, ints] at h6 h7 a1
      generalize hrb : s.boxes.map encBox = rb at *
      generalize hrs : irow s.gone = rs at *
      generalize s.boxes[i].mails.map encMail = r1 at *
      generalize irow s.boxes[i].gone = r2 at *
      generalize b'.mails.map encMail = r3 at *
      generalize irow b'.gone = r4 at *
      cases ok
      · simp only [Bool.false_eq_true, if_false]
        simp (maxSteps := 1000000) [exB, spec_MarkMail.m, spec_MarkMail.b, List.range_succ, bs_get, setAt, hi, ni, h1, h2, h4, h5, h6, er, eg, a1, List.take_of_length_le]
        exact ⟨hrb.symm, hrs.symm⟩
      · simp only [if_true]
        generalize s'.boxes.map encBox = rb' at *
        generalize irow s'.gone = rs' at *
        simp (maxSteps := 1000000) [exB, spec_MarkMail.m, spec_MarkMail.b, List.range_succ, bs_get, setAt, hi, ni, h1, h2, h4, h5, h6, h7, er, eg, er2, eg2, a1, List.take_of_length_le]
set_option maxHeartbeats 4000000 in
theorem spec_DropMail.says (h : spec_DropMail.k M) (s : Store) (hs : StoreT s) (g m : Int) :
    run M 281 [.a (encStore s), .c (I g), .c (I m)] [] = some (.tup [.a (encStoreO (dropMail s g m).1), .c (.bool (dropMail s g m).2)], []) := by
  obtain ⟨h0, kt, ko, kb, kc⟩ := h
  have h1 := spec_BoxAt.says kb s g hs.in_.b
  have h2 := spec_StoreOk.says ko s hs.in_
  have h4 := spec_l07Copy.says kc s hs.in_
  have er : (s.boxes.map encBox).length = s.boxes.length := by simp
  have eg := irow_length s.gone
  refine run_code (b := spec_DropMail.m) h0 ⟨0, ?_⟩
  unfold dropMail
  cases c1 : storeOk s with
  | false =>
    rw [c1] at h2
    simp only [Bool.false_eq_true, if_false]
    simp only [encStore, encStoreO, boxes, ints] at *
    generalize s.boxes.map encBox = rb at *
    generalize irow s.gone = rs at *
    simp (maxSteps := 1000000) [exB, spec_DropMail.m, spec_DropMail.b, List.range_succ, bs_get, setAt, h1, h2, h4, er, eg, List.take_of_length_le]
  | true =>
    rw [c1] at h2
    rw [if_pos rfl]
    cases c3 : boxO s.boxes g with
    | none =>
      rw [c3] at h1
      rw [at_none c3]
      simp only [encStore, encStoreO, boxes, ints, intO] at *
      generalize s.boxes.map encBox = rb at *
      generalize irow s.gone = rs at *
      simp (maxSteps := 1000000) [exB, spec_DropMail.m, spec_DropMail.b, List.range_succ, bs_get, setAt, h1, h2, h4, er, eg, List.take_of_length_le]
    | some i =>
      rw [c3] at h1
      obtain ⟨hi, _⟩ := boxO_some c3
      rw [at_some c3 hi]
      have hG := (storeOk_good c1).boxes.good _ (List.getElem_mem hi)
      have h6 := spec_TakeOut.says kt s.boxes[i] hG.inB m
      have a1 : ∀ hh, (s.boxes.map encBox)[i]'hh = encBox s.boxes[i] := by intro hh; simp
      have ni : ¬ (i : Int) < 0 := by omega
      generalize takeOut s.boxes[i] m = A at *
      obtain ⟨b', ok⟩ := A
      have es : (s.boxes.set i b').map encBox = (s.boxes.map encBox).set i (encBox b') := List.map_set
      simp only [encStore, encStoreO, boxes, ints, intO] at h1 h2 h4 ⊢
      simp only [encBox, encBoxO, mails, ints] at h6 a1 es
      cases ok
      · simp only [Bool.false_eq_true, if_false]
        generalize s.boxes.map encBox = rb at *
        generalize irow s.gone = rs at *
        generalize s.boxes[i].mails.map encMail = r1 at *
        generalize irow s.boxes[i].gone = r2 at *
        generalize b'.mails.map encMail = r3 at *
        generalize irow b'.gone = r4 at *
        simp (maxSteps := 1000000) [exB, spec_DropMail.m, spec_DropMail.b, List.range_succ, bs_get, setAt, hi, ni, h1, h2, h4, h6, er, eg, a1, List.take_of_length_le]
      · simp only [if_true, es]
        clear es
        generalize s.boxes.map encBox = rb at *
        generalize irow s.gone = rs at *
        generalize s.boxes[i].mails.map encMail = r1 at *
        generalize irow s.boxes[i].gone = r2 at *
        generalize b'.mails.map encMail = r3 at *
        generalize irow b'.gone = r4 at *
        simp (maxSteps := 1000000) [exB, spec_DropMail.m, spec_DropMail.b, List.range_succ, bs_get, setAt, hi, ni, h1, h2, h4, h6, er, eg, a1, List.take_of_length_le]
end Mx

namespace Mx
open Go
variable {M : Nat → Option Body}
def renamedB (s : Store) (nm : List UInt8) (b : Box) : Box := { b with name := nm, time := s.time + 1, who := s.who }
def renameBox (s : Store) (g : Int) (nm : List UInt8) : Store × Bool := if storeOk s = true ∧ (named s.boxes nm).isSome = false then at_ s g fun i b => stamped s i (renamedB s nm b) else (s, false)
set_option maxHeartbeats 4000000 in
theorem spec_RenameBox.says (h : spec_RenameBox.k M) (s : Store) (hs : StoreT s) (g : Int) (nm : List UInt8) (hn : nm.length ≤ 1048576) :
    run M 282 [.a (encStore s), .c (I g), .c (S nm)] [] = some (.tup [.a (encStoreO (renameBox s g nm).1), .c (.bool (renameBox s g nm).2)], []) := by
  obtain ⟨h0, ko, kb, kc, kn, kst⟩ := h
  have ht := hs.time
  have h1 := spec_BoxAt.says kb s g hs.in_.b
  have h2 := spec_StoreOk.says ko s hs.in_
  have h3 := spec_BoxNamed.says kn s nm hs.in_.b
  have h4 := spec_l07Copy.says kc s hs.in_
  have h5 := spec_NextStamp.says kst s hs.time
  have er : (s.boxes.map encBox).length = s.boxes.length := by simp
  have eg := irow_length s.gone
  have e5 : IntKind.i64.wrap (s.time + 1) = s.time + 1 := wrap_i64 (by omega) (by omega)
  refine run_code (b := spec_RenameBox.m) h0 ⟨0, ?_⟩
  unfold renameBox
  cases c1 : storeOk s with
  | false =>
    rw [c1] at h2
    simp only [Bool.false_eq_true, false_and, if_false]
    simp only [encStore, encStoreO, boxes, ints] at *
    generalize s.boxes.map encBox = rb at *
    generalize irow s.gone = rs at *
    simp (maxSteps := 1000000) [exB, spec_RenameBox.m, spec_RenameBox.b, List.range_succ, bs_get, setAt, h1, h2, h4, er, eg, List.take_of_length_le]
  | true =>
    rw [c1] at h2
    cases c3 : boxO s.boxes g with
    | none =>
      rw [c3] at h1
      have e : (if true = true ∧ (named s.boxes nm).isSome = false then at_ s g fun i b => stamped s i (renamedB s nm b) else (s, false)) = (s, false) := by
        rw [at_none c3]; split <;> rfl
      rw [e]
      simp only [encStore, encStoreO, boxes, ints, intO] at *
      generalize s.boxes.map encBox = rb at *
      generalize irow s.gone = rs at *
      simp (maxSteps := 1000000) [exB, spec_RenameBox.m, spec_RenameBox.b, List.range_succ, bs_get, setAt, h1, h2, h4, er, eg, List.take_of_length_le]
    | some i =>
      rw [c3] at h1
      obtain ⟨hi, _⟩ := boxO_some c3
      have ni : ¬ (i : Int) < 0 := by omega
      have c0 := intO_nonneg (named s.boxes nm)
      cases c2 : (named s.boxes nm).isSome with
      | true =>
        rw [c2] at c0
        simp only [decide_eq_true_eq] at c0
        simp only [Bool.true_eq_false, and_false, if_false]
        generalize intO (named s.boxes nm) = z at *
        simp only [encStore, encStoreO, boxes, ints, intO] at *
        generalize s.boxes.map encBox = rb at *
        generalize irow s.gone = rs at *
        simp (maxSteps := 1000000) [exB, spec_RenameBox.m, spec_RenameBox.b, List.range_succ, bs_get, setAt, ni, c0, h1, h2, h3, h4, er, eg, List.take_of_length_le]
      | false =>
        rw [c2] at c0
        simp only [decide_eq_false_iff_not] at c0
        rw [if_pos ⟨rfl, rfl⟩, at_some c3 hi]
        have hG := (storeOk_good c1).boxes.good _ (List.getElem_mem hi)
        have hin : BoxIn (renamedB s nm s.boxes[i]) := ⟨hG.inB.m, hG.inB.g, hn, hG.inB.f⟩
        have h6 := spec_StoreOk.says ko _ (stampedTo_in hs.in_ hi hin (by have := good_gids c1; have := hG.len; simp only [renamedB]; omega))
        have a1 : ∀ hh, (s.boxes.map encBox)[i]'hh = encBox s.boxes[i] := by intro hh; simp
        have es : (stampedTo s i (renamedB s nm s.boxes[i])).boxes.map encBox = (s.boxes.map encBox).set i (encBox (renamedB s nm s.boxes[i])) := by simp only [stampedTo, List.map_set]
        have ew : (stampedTo s i (renamedB s nm s.boxes[i])).who = s.who := rfl
        have et : (stampedTo s i (renamedB s nm s.boxes[i])).time = s.time + 1 := rfl
        have egn : (stampedTo s i (renamedB s nm s.boxes[i])).gone = s.gone := rfl
        unfold stamped
        generalize intO (named s.boxes nm) = z at *
        cases c : storeOk (stampedTo s i (renamedB s nm s.boxes[i])) with
        | true =>
          rw [c] at h6
          rw [if_pos rfl]
          simp only [encStore, encStoreO, boxes, ints, intO, es, ew, et, egn] at h1 h2 h3 h4 h5 h6 ⊢
          clear es c
          simp only [encBox, mails, ints, renamedB] at h6 a1 ⊢
          generalize s.boxes.map encBox = rb at *
          generalize irow s.gone = rs at *
          generalize s.boxes[i].mails.map encMail = r1 at *
          generalize irow s.boxes[i].gone = r2 at *
          simp (maxSteps := 1000000) [exB, spec_RenameBox.m, spec_RenameBox.b, List.range_succ, bs_get, setAt, hi, ni, c0, h1, h2, h3, h4, h5, h6, e5, er, eg, a1, List.take_of_length_le]
        | false =>
          rw [c] at h6
          rw [if_neg (by decide)]
          simp only [encStore, encStoreO, boxes, ints, intO, es, ew, et, egn] at h1 h2 h3 h4 h5 h6 ⊢
          clear es c
          simp only [encBox, mails, ints, renamedB] at h6 a1 ⊢
          generalize s.boxes.map encBox = rb at *
          generalize irow s.gone = rs at *
          generalize s.boxes[i].mails.map encMail = r1 at *
          generalize irow s.boxes[i].gone = r2 at *
          simp (maxSteps := 1000000) [exB, spec_RenameBox.m, spec_RenameBox.b, List.range_succ, bs_get, setAt, hi, ni, c0, h1, h2, h3, h4, h5, h6, e5, er, eg, a1, List.take_of_length_le]
def dropBox (s : Store) (g : Int) : Store × Bool := if storeOk s = true ∧ s.gone.length < 20 then at_ s g fun i _ => ({ s with boxes := s.boxes.take i ++ s.boxes.drop (i + 1), gone := gput s.gone g }, true) else (s, false)
set_option maxHeartbeats 4000000 in
theorem spec_DropBox.says (h : spec_DropBox.k M) (s : Store) (hs : StoreT s) (g : Int) :
    run M 283 [.a (encStore s), .c (I g)] [] = some (.tup [.a (encStoreO (dropBox s g).1), .c (.bool (dropBox s g).2)], []) := by
  obtain ⟨h0, kp, ko, kb, kc⟩ := h
  have h1 := spec_BoxAt.says kb s g hs.in_.b
  have h2 := spec_StoreOk.says ko s hs.in_
  have h4 := spec_l07Copy.says kc s hs.in_
  have h5 := spec_l06Put.says kp s.gone g (by have := hs.in_.g; omega)
  have er : (s.boxes.map encBox).length = s.boxes.length := by simp
  have eg := irow_length s.gone
  have hbl := hs.in_.b
  refine run_code (b := spec_DropBox.m) h0 ⟨0, ?_⟩
  unfold dropBox
  cases c1 : storeOk s with
  | false =>
    rw [c1] at h2
    simp only [Bool.false_eq_true, false_and, if_false]
    simp only [encStore, encStoreO, boxes, ints] at *
    generalize s.boxes.map encBox = rb at *
    generalize irow s.gone = rs at *
    simp (maxSteps := 1000000) [exB, spec_DropBox.m, spec_DropBox.b, List.range_succ, bs_get, setAt, h1, h2, h4, er, eg, List.take_of_length_le]
  | true =>
    rw [c1] at h2
    cases c3 : boxO s.boxes g with
    | none =>
      rw [c3] at h1
      have e : (if true = true ∧ s.gone.length < 20 then at_ s g fun i _ => ({ s with boxes := s.boxes.take i ++ s.boxes.drop (i + 1), gone := gput s.gone g }, true) else (s, false)) = (s, false) := by
        rw [at_none c3]; split <;> rfl
      rw [e]
      simp only [encStore, encStoreO, boxes, ints, intO] at *
      generalize s.boxes.map encBox = rb at *
      generalize irow s.gone = rs at *
      simp (maxSteps := 1000000) [exB, spec_DropBox.m, spec_DropBox.b, List.range_succ, bs_get, setAt, h1, h2, h4, er, eg, List.take_of_length_le]
    | some i =>
      rw [c3] at h1
      obtain ⟨hi, _⟩ := boxO_some c3
      have ni : ¬ (i : Int) < 0 := by omega
      by_cases c2 : s.gone.length < 20
      · have c2' : ¬ (20 : Int) ≤ (s.gone.length : Int) := by omega
        have c2'' : ¬ 20 ≤ s.gone.length := by omega
        rw [if_pos ⟨rfl, c2⟩, at_some c3 hi]
        have e5 := wrap1 (i := i) (by omega)
        have e6 : (s.boxes.take i ++ s.boxes.drop (i + 1)).map encBox = (s.boxes.map encBox).take i ++ (s.boxes.map encBox).drop (i + 1) := by simp [List.map_take, List.map_drop]
        have e7 := irow_length (gput s.gone g)
        have e8 : i ≤ s.boxes.length := by omega
        have e9 : i + (s.boxes.length - (i + 1)) ≤ 4294967296 := by omega
        have e10 : i ≤ 4294967296 := by omega
        have e11 : i + 1 ≤ s.boxes.length := by omega
        have e12 : Min.min i s.boxes.length = i := by omega
        simp only [encStore, encStoreO, boxes, ints, intO, e6] at h1 h2 h4 h5 ⊢
        generalize irow (gput s.gone g) = rp at *
        generalize s.boxes.map encBox = rb at *
        generalize irow s.gone = rs at *
        have f1 : (0 : Int) ≤ (i : Int) + 1 := by omega
        have f2 : ((i : Int) + 1).toNat = i + 1 := by omega
        by_cases c9 : i + 1 = s.boxes.length
        · have d1 : rb.drop (i + 1) = [] := List.drop_eq_nil_of_le (by omega)
          have d2 : rb.drop s.boxes.length = [] := List.drop_eq_nil_of_le (by omega)
          have d3 : s.boxes.length - (i + 1) = 0 := by omega
          have d4 : ¬ s.boxes.length = 0 := by omega
          rw [← c9] at hi er
          simp (maxSteps := 1000000) [exB, spec_DropBox.m, spec_DropBox.b, List.range_succ, bs_get, setAt, hi, ni, c2, c2', c2'', h1, h2, h4, h5, e5, e7, e10, e12, d1, f1, f2, er, eg, List.take_of_length_le]
        · simp (maxSteps := 1000000) [exB, spec_DropBox.m, spec_DropBox.b, List.range_succ, bs_get, setAt, hi, ni, c2, c2', c2'', c9, f1, f2, h1, h2, h4, h5, e5, e7, e8, e9, e10, e11, e12, er, eg, List.take_of_length_le]
      · have c2' : (20 : Int) ≤ (s.gone.length : Int) := by omega
        have c2'' : 20 ≤ s.gone.length := by omega
        simp only [c2, and_false, if_false]
        simp only [encStore, encStoreO, boxes, ints, intO] at *
        generalize s.boxes.map encBox = rb at *
        generalize irow s.gone = rs at *
        simp (maxSteps := 1000000) [exB, spec_DropBox.m, spec_DropBox.b, List.range_succ, bs_get, setAt, ni, c2', c2'', h1, h2, h4, er, eg, List.take_of_length_le]
end Mx

namespace Mx
open Go
variable {M : Nat → Option Body}
structure MbC where
  s : Store
  g : Int
  N : List T
  u3 : Nat
  u6 : Nat
  u8 : Nat
  u9 : Nat
  w2 : Nat
  w3 : Nat
def mb8 (c : MbC) (v n : Nat) : List T := [I c.s.who, I c.s.time, .row 30 v 0 n, .row 12903 c.w3 0 c.s.gone.length]
def mbS (c : MbC) (i : Nat) (out : List Box) (y : Nat × Nat) : St := { t := [(1, .c (I c.g)), (3, .c (.ptr 3 c.u3 0 0)), (6, .c (.ptr 6 c.u6 0 0)), (8, .c (.ptr 8 c.u8 0 0)), (9, .c (.ptr 9 c.u9 0 0)), (10, .c (I i))], o := [(3, ⟨c.u3, 4, true, true, [encStore c.s]⟩), (6, ⟨c.u6, 4, true, true, [szero]⟩), (8, ⟨c.u8, 4, true, true, [mb8 c y.1 out.length]⟩), (9, ⟨c.u9, 7, true, true, [c.N]⟩), (30, ⟨y.1, 7, true, false, out.map encBox⟩), (12902, ⟨c.w2, 7, true, false, c.s.boxes.map encBox⟩), (12903, ⟨c.w3, 1, true, false, irow c.s.gone⟩)], n := y.2 }
def mbE (c : MbC) (out : List Box) (y : Nat × Nat) : St := { t := [(1, .c (I c.g)), (3, .c (.ptr 3 c.u3 0 0)), (6, .c (.ptr 6 c.u6 0 0)), (8, .c (.ptr 8 c.u8 0 0)), (9, .c (.ptr 9 c.u9 0 0)), (10, .c (I c.s.boxes.length)), (41, .c (.bool false))], o := [(3, ⟨c.u3, 4, true, true, [encStore c.s]⟩), (6, ⟨c.u6, 4, true, true, [szero]⟩), (8, ⟨c.u8, 4, true, true, [mb8 c y.1 out.length]⟩), (9, ⟨c.u9, 7, true, true, [c.N]⟩), (30, ⟨y.1, 7, true, false, out.map encBox⟩), (12902, ⟨c.w2, 7, true, false, c.s.boxes.map encBox⟩), (12903, ⟨c.w3, 1, true, false, irow c.s.gone⟩)], n := y.2 }
def mcS (c : MbC) (i : Nat) (out : List Box) (y : Nat × Nat) : St := { t := [(1, .c (I c.g)), (3, .c (.ptr 3 c.u3 0 0)), (6, .c (.ptr 6 c.u6 0 0)), (8, .c (.ptr 8 c.u8 0 0)), (11, .c (I i))], o := [(3, ⟨c.u3, 4, true, true, [encStore c.s]⟩), (6, ⟨c.u6, 4, true, true, [szero]⟩), (8, ⟨c.u8, 4, true, true, [mb8 c y.1 out.length]⟩), (30, ⟨y.1, 7, true, false, out.map encBox⟩), (12902, ⟨c.w2, 7, true, false, c.s.boxes.map encBox⟩), (12903, ⟨c.w3, 1, true, false, irow c.s.gone⟩)], n := y.2 }
def mcE (c : MbC) (out : List Box) (y : Nat × Nat) : St := { t := [(1, .c (I c.g)), (3, .c (.ptr 3 c.u3 0 0)), (6, .c (.ptr 6 c.u6 0 0)), (8, .c (.ptr 8 c.u8 0 0)), (11, .c (I c.s.boxes.length)), (73, .c (.bool false))], o := [(3, ⟨c.u3, 4, true, true, [encStore c.s]⟩), (6, ⟨c.u6, 4, true, true, [szero]⟩), (8, ⟨c.u8, 4, true, true, [mb8 c y.1 out.length]⟩), (30, ⟨y.1, 7, true, false, out.map encBox⟩), (12902, ⟨c.w2, 7, true, false, c.s.boxes.map encBox⟩), (12903, ⟨c.w3, 1, true, false, irow c.s.gone⟩)], n := y.2 }
theorem bfilter_fold (p : Box → Bool) : ∀ (l s : List Box), l.foldl (fun s a => if p a = true then s ++ [a] else s) s = s ++ l.filter p
  | [], s => by simp
  | a :: l, s => by
    rw [List.foldl_cons, bfilter_fold p l, List.filter_cons]
    by_cases h : p a = true <;> simp [h]
set_option maxHeartbeats 2000000 in
theorem mb_loop (kc : spec_l06Copy.k M) (k : Nat) (c : MbC) (hs : StoreIn c.s) (hk : c.s.boxes.length < k) (y : Nat × Nat) :
    ∃ z, loopN (exC (run M) k spec_MakeBox.l0) k (mbS c 0 [] y) = some (.exit 0, mbE c (c.s.boxes.filter fun b => decide (b.gid < c.g)) z) := by
  have hbl := hs.b
  have er : (c.s.boxes.map encBox).length = c.s.boxes.length := by simp
  obtain ⟨g, hr⟩ := fold_loop (f := exC (run M) k spec_MakeBox.l0) c.s.boxes (fun s b => if decide (b.gid < c.g) = true then s ++ [b] else s) (fun i s => s.length ≤ i) (mbS c) 0 (mbE c)
    (fun i h s hs => by split <;> (try simp) <;> omega)
    (fun i hi s y hi2 => by
      obtain ⟨v, n⟩ := y
      have hB := hs.i _ (List.getElem_mem hi)
      have h1 := spec_l06Copy.says kc c.s.boxes[i] hB
      have e5 := wrap1 (i := i) (by omega)
      have e6 : s.length + 1 ≤ 4294967296 := by omega
      have e9 : (s.map encBox).length = s.length := by simp
      have a1 : ∀ hh, (c.s.boxes.map encBox)[i]'hh = encBox c.s.boxes[i] := by intro hh; simp
      simp only [Prod.exists]
      by_cases q : c.s.boxes[i].gid < c.g
      · simp only [q, decide_true, if_true, mbS, mb8, List.map_append, List.map_cons, List.map_nil, List.length_append, List.length_singleton]
        simp only [encStore, encBox, encBoxO, boxes, mails, ints] at a1 h1 ⊢
        generalize c.s.boxes.map encBox = rb at *
        generalize irow c.s.gone = rs at *
        generalize s.map encBox = ro at *
        generalize c.s.boxes[i].mails.map encMail = r1 at *
        generalize irow c.s.boxes[i].gone = r2 at *
        simp (maxSteps := 1000000) [spec_MakeBox.l0, List.range_succ, bs_get, setAt, hi, q, h1, e5, e6, e9, er, a1, List.take_of_length_le]
      · simp only [q, decide_false, Bool.false_eq_true, if_false, mbS, mb8]
        simp only [encStore, encBox, encBoxO, boxes, mails, ints] at a1 h1 ⊢
        generalize c.s.boxes.map encBox = rb at *
        generalize irow c.s.gone = rs at *
        generalize s.map encBox = ro at *
        generalize c.s.boxes[i].mails.map encMail = r1 at *
        generalize irow c.s.boxes[i].gone = r2 at *
        simp (maxSteps := 1000000) [spec_MakeBox.l0, List.range_succ, bs_get, setAt, hi, q, e5, er, a1])
    (fun s y hs => by
      obtain ⟨v, n⟩ := y
      simp only [Prod.exists, mbS, mbE, mb8, encStore, boxes, ints]
      generalize c.s.boxes.map encBox = rb at *
      generalize irow c.s.gone = rs at *
      generalize s.map encBox = ro at *
      simp (maxSteps := 1000000) [spec_MakeBox.l0, List.range_succ, bs_get, setAt, er]) [] (by simp)
  rw [bfilter_fold, List.nil_append] at hr
  exact ⟨_, loopN_le (hr y) (by omega)⟩
set_option maxHeartbeats 2000000 in
theorem mc_loop (kc : spec_l06Copy.k M) (k : Nat) (c : MbC) (hs : StoreIn c.s) (hk : c.s.boxes.length < k) (o0 : List Box) (ho : o0.length ≤ 2097152) (y : Nat × Nat) :
    ∃ z, loopN (exC (run M) k spec_MakeBox.l1) k (mcS c 0 o0 y) = some (.exit 2, mcE c (o0 ++ c.s.boxes.filter fun b => decide (c.g < b.gid)) z) := by
  have hbl := hs.b
  have er : (c.s.boxes.map encBox).length = c.s.boxes.length := by simp
  obtain ⟨g, hr⟩ := fold_loop (f := exC (run M) k spec_MakeBox.l1) c.s.boxes (fun s b => if decide (c.g < b.gid) = true then s ++ [b] else s) (fun i s => s.length ≤ 2097152 + i) (mcS c) 2 (mcE c)
    (fun i h s hs => by split <;> (try simp) <;> omega)
    (fun i hi s y hi2 => by
      obtain ⟨v, n⟩ := y
      have hB := hs.i _ (List.getElem_mem hi)
      have h1 := spec_l06Copy.says kc c.s.boxes[i] hB
      have e5 := wrap1 (i := i) (by omega)
      have e6 : s.length + 1 ≤ 4294967296 := by omega
      have e9 : (s.map encBox).length = s.length := by simp
      have a1 : ∀ hh, (c.s.boxes.map encBox)[i]'hh = encBox c.s.boxes[i] := by intro hh; simp
      simp only [Prod.exists]
      by_cases q : c.g < c.s.boxes[i].gid
      · simp only [q, decide_true, if_true, mcS, mb8, List.map_append, List.map_cons, List.map_nil, List.length_append, List.length_singleton]
        simp only [encStore, encBox, encBoxO, boxes, mails, ints] at a1 h1 ⊢
        generalize c.s.boxes.map encBox = rb at *
        generalize irow c.s.gone = rs at *
        generalize s.map encBox = ro at *
        generalize c.s.boxes[i].mails.map encMail = r1 at *
        generalize irow c.s.boxes[i].gone = r2 at *
        simp (maxSteps := 1000000) [spec_MakeBox.l1, List.range_succ, bs_get, setAt, hi, q, h1, e5, e6, e9, er, a1, List.take_of_length_le]
      · simp only [q, decide_false, Bool.false_eq_true, if_false, mcS, mb8]
        simp only [encStore, encBox, encBoxO, boxes, mails, ints] at a1 h1 ⊢
        generalize c.s.boxes.map encBox = rb at *
        generalize irow c.s.gone = rs at *
        generalize s.map encBox = ro at *
        generalize c.s.boxes[i].mails.map encMail = r1 at *
        generalize irow c.s.boxes[i].gone = r2 at *
        simp (maxSteps := 1000000) [spec_MakeBox.l1, List.range_succ, bs_get, setAt, hi, q, e5, er, a1])
    (fun s y hs => by
      obtain ⟨v, n⟩ := y
      simp only [Prod.exists, mcS, mcE, mb8, encStore, boxes, ints]
      generalize c.s.boxes.map encBox = rb at *
      generalize irow c.s.gone = rs at *
      generalize s.map encBox = ro at *
      simp (maxSteps := 1000000) [spec_MakeBox.l1, List.range_succ, bs_get, setAt, er]) o0 (by omega)
  rw [bfilter_fold] at hr
  exact ⟨_, loopN_le (hr y) (by omega)⟩
end Mx

namespace Mx
open Go
variable {M : Nat → Option Body}
def newBox (s : Store) (g : Int) (nm : List UInt8) : Box := ⟨g, nm, s.time + 1, s.who, 1, [], []⟩
def makeTo (s : Store) (g : Int) (nm : List UInt8) : Store := { s with boxes := (s.boxes.filter fun b => decide (b.gid < g)) ++ [newBox s g nm] ++ s.boxes.filter fun b => decide (g < b.gid), time := s.time + 1 }
def makeBox (s : Store) (g : Int) (nm : List UInt8) : Store × Bool := if storeOk s = true ∧ knows s g = false ∧ (named s.boxes nm).isSome = false then (if storeOk (makeTo s g nm) = true then (makeTo s g nm, true) else (s, false)) else (s, false)
theorem makeTo_in {s : Store} (h : storeOk s = true) (g : Int) (nm : List UInt8) (hn : nm.length ≤ 1048576) : StoreIn (makeTo s g nm) := by
  have G := storeOk_good h
  have hl := G.boxes.len
  have f1 := List.length_filter_le (fun b : Box => decide (b.gid < g)) s.boxes
  have f2 := List.length_filter_le (fun b : Box => decide (g < b.gid)) s.boxes
  have hin : ∀ x ∈ (makeTo s g nm).boxes, x ∈ s.boxes ∨ x = newBox s g nm := fun x hx => by
    simp only [makeTo, List.mem_append, List.mem_filter, List.mem_singleton] at hx
    rcases hx with (q | q) | q
    · exact .inl q.1
    · exact .inr q
    · exact .inl q.1
  have hlen : (makeTo s g nm).boxes.length ≤ 11 := by simp only [makeTo, List.length_append, List.length_singleton]; omega
  have key : ∀ l : List Box, (∀ x ∈ l, x.mails.length ≤ 10) → (l.flatMap gidsOf).length ≤ 10 * l.length := by
    intro l
    induction l with
    | nil => intro _; simp
    | cons x l ih =>
      intro h
      have h1 := ih fun y hy => h y (List.mem_cons_of_mem _ hy)
      have h2 := h x (List.mem_cons_self ..)
      simp only [List.flatMap_cons, List.length_append, gidsOf, List.length_map, List.length_cons] at h1 ⊢
      omega
  refine ⟨by omega, by have := G.gone; simp only [makeTo]; omega, fun x hx => ?_, ?_⟩
  · rcases hin x hx with q | q
    · exact (G.boxes.good x q).inB
    · rw [q]; exact ⟨by simp [newBox], by simp [newBox], hn, by simp [newBox]⟩
  · have := key (makeTo s g nm).boxes fun x hx => by
      rcases hin x hx with q | q
      · exact (G.boxes.good x q).len
      · rw [q]; simp [newBox]
    omega
set_option maxHeartbeats 4000000 in
theorem spec_MakeBox.says (h : spec_MakeBox.k M) (s : Store) (hs : StoreT s) (g : Int) (nm : List UInt8) (hn : nm.length ≤ 1048576) :
    run M 278 [.a (encStore s), .c (I g), .c (S nm)] [] = some (.tup [.a (encStoreO (makeBox s g nm).1), .c (.bool (makeBox s g nm).2)], []) := by
  obtain ⟨h0, ko, kc6, kc, kn, kk, kst⟩ := h
  have ht := hs.time
  have hbl := hs.in_.b
  have h2 := spec_StoreOk.says ko s hs.in_
  have h3 := spec_BoxNamed.says kn s nm hs.in_.b
  have h7 := spec_Knows.says kk s g hs.in_
  have h4 := spec_l07Copy.says kc s hs.in_
  have h5 := spec_NextStamp.says kst s hs.time
  have er : (s.boxes.map encBox).length = s.boxes.length := by simp
  have eg := irow_length s.gone
  have e5 : IntKind.i64.wrap (s.time + 1) = s.time + 1 := wrap_i64 (by omega) (by omega)
  have c0 := intO_nonneg (named s.boxes nm)
  refine run_code (b := spec_MakeBox.m) h0 ⟨s.boxes.length + 1, ?_⟩
  unfold makeBox
  cases c1 : storeOk s with
  | false =>
    rw [c1] at h2
    simp only [Bool.false_eq_true, false_and, if_false]
    simp only [encStore, encStoreO, boxes, ints] at *
    generalize s.boxes.map encBox = rb at *
    generalize irow s.gone = rs at *
    simp (maxSteps := 1000000) [exB, spec_MakeBox.m, spec_MakeBox.b, List.range_succ, bs_get, setAt, h2, h4, er, eg, List.take_of_length_le]
  | true =>
    rw [c1] at h2
    cases c2 : knows s g with
    | true =>
      rw [c2] at h7
      simp only [Bool.true_eq_false, false_and, and_false, if_false]
      simp only [encStore, encStoreO, boxes, ints] at *
      generalize s.boxes.map encBox = rb at *
      generalize irow s.gone = rs at *
      simp (maxSteps := 1000000) [exB, spec_MakeBox.m, spec_MakeBox.b, List.range_succ, bs_get, setAt, h2, h4, h7, er, eg, List.take_of_length_le]
    | false =>
      rw [c2] at h7
      cases c3 : (named s.boxes nm).isSome with
      | true =>
        rw [c3] at c0
        simp only [decide_eq_true_eq] at c0
        simp only [Bool.true_eq_false, and_false, if_false]
        generalize intO (named s.boxes nm) = z at *
        simp only [encStore, encStoreO, boxes, ints] at *
        generalize s.boxes.map encBox = rb at *
        generalize irow s.gone = rs at *
        simp (maxSteps := 1000000) [exB, spec_MakeBox.m, spec_MakeBox.b, List.range_succ, bs_get, setAt, c0, h2, h3, h4, h7, er, eg, List.take_of_length_le]
      | false =>
        rw [c3] at c0
        simp only [decide_eq_false_iff_not] at c0
        rw [if_pos ⟨rfl, rfl, rfl⟩]
        have h6 := spec_StoreOk.says ko _ (makeTo_in c1 g nm hn)
        obtain ⟨⟨v1, n1⟩, r1⟩ := mb_loop kc6 (s.boxes.length + 1) ⟨s, g, [I g, S nm, I (s.time + 1), I s.who, I 1, .nils 4, .nils 1], 2000000, 2000016, 2000304, 2000464, 2000290, 2000291⟩ hs.in_ (by simp only; omega) (2000336, 2000512)
        have f1 := List.length_filter_le (fun b : Box => decide (b.gid < g)) s.boxes
        have f2 := List.length_filter_le (fun b : Box => decide (g < b.gid)) s.boxes
        obtain ⟨⟨v2, n2⟩, r2⟩ := mc_loop kc6 (s.boxes.length + 1) ⟨s, g, [], 2000000, 2000016, 2000304, 0, 2000290, 2000291⟩ hs.in_ (by simp only; omega) ((s.boxes.filter fun b => decide (b.gid < g)) ++ [newBox s g nm]) (by simp; omega) (n1 + 64, n1 + 128)
        have ez : ((0 : Nat) : Int) = 0 := rfl
        have el1 : ((s.boxes.filter fun b => decide (b.gid < g)).map encBox).length = (s.boxes.filter fun b => decide (b.gid < g)).length := by simp
        have em : (((s.boxes.filter fun b => decide (b.gid < g)) ++ [newBox s g nm]).map encBox) = (s.boxes.filter fun b => decide (b.gid < g)).map encBox ++ [[I g, S nm, I (s.time + 1), I s.who, I 1, .sl false 4 [], .sl false 1 []]] := by simp [newBox, encBox, irow]
        have eml : ((s.boxes.filter fun b => decide (b.gid < g)) ++ [newBox s g nm]).length = (s.boxes.filter fun b => decide (b.gid < g)).length + 1 := by simp
        have e6 : (s.boxes.filter fun b => decide (b.gid < g)).length + 1 ≤ 4294967296 := by omega
        have emt : (makeTo s g nm).boxes = (s.boxes.filter fun b => decide (b.gid < g)) ++ [newBox s g nm] ++ s.boxes.filter fun b => decide (g < b.gid) := rfl
        have el2 : ((makeTo s g nm).boxes.map encBox).length = (makeTo s g nm).boxes.length := by simp
        have ew : (makeTo s g nm).who = s.who := rfl
        have et : (makeTo s g nm).time = s.time + 1 := rfl
        have egn : (makeTo s g nm).gone = s.gone := rfl
        simp only [mbS, mbE, mb8, ez, List.map_nil, List.length_nil] at r1
        simp only [mcS, mcE, mb8, ez, ← emt, em, eml] at r2
        clear emt em eml
        generalize intO (named s.boxes nm) = z at *
        generalize (s.boxes.filter fun b => decide (b.gid < g)).map encBox = rf at *
        generalize (s.boxes.filter fun b => decide (b.gid < g)).length = nf at *
        cases c : storeOk (makeTo s g nm) with
        | true =>
          rw [c] at h6
          rw [if_pos rfl]
          simp only [encStore, encStoreO, boxes, ints, ew, et, egn] at h2 h3 h4 h5 h6 h7 r1 r2 ⊢
          clear c
          generalize (makeTo s g nm).boxes.map encBox = rm at *
          generalize (makeTo s g nm).boxes.length = nm2 at *
          generalize s.boxes.map encBox = rb at *
          generalize irow s.gone = rs at *
          simp (maxSteps := 1000000) [exB, spec_MakeBox.m, spec_MakeBox.b, List.range_succ, bs_get, setAt, c0, h2, h3, h4, h5, h6, h7, r1, r2, e5, e6, el1, el2, er, eg, List.take_of_length_le]
        | false =>
          rw [c] at h6
          rw [if_neg (by decide)]
          simp only [encStore, encStoreO, boxes, ints, ew, et, egn] at h2 h3 h4 h5 h6 h7 r1 r2 ⊢
          clear c
          generalize (makeTo s g nm).boxes.map encBox = rm at *
          generalize (makeTo s g nm).boxes.length = nm2 at *
          generalize s.boxes.map encBox = rb at *
          generalize irow s.gone = rs at *
          simp (maxSteps := 1000000) [exB, spec_MakeBox.m, spec_MakeBox.b, List.range_succ, bs_get, setAt, c0, h2, h3, h4, h5, h6, h7, r1, r2, e5, e6, el1, el2, er, eg, List.take_of_length_le]
end Mx

namespace Mx
open Go
structure GoodS (s : Store) : Prop where
  who : 1 ≤ s.who ∧ s.who ≤ 2
  time : 0 ≤ s.time ∧ s.time ≤ 100000
  len : s.boxes.length ≤ 5
  gone : Asc s.gone
  goneR : ∀ g ∈ s.gone, 1 ≤ g ∧ g ≤ 9999
  goneL : s.gone.length ≤ 20
  box : ∀ b ∈ s.boxes, Good b ∧ ¬ b.gid ∈ s.gone ∧ late b s.time = false
  asc : s.boxes.Pairwise fun x y => x.gid < y.gid
  names : s.boxes.Pairwise fun x y => x.name ≠ y.name
  mails : (s.boxes.flatMap gidsOf).Nodup
theorem named_at {l : List Box} (i : Nat) (hi : i < l.length) : intO (named l l[i].name) = (i : Int) ↔ ∀ j (hj : j < i), (l[j]'(by omega)).name ≠ l[i].name := by
  unfold named
  constructor
  · intro h j hj e
    cases q : l.findIdx? (fun b => decide (b.name = l[i].name)) with
    | none => rw [q] at h; simp [intO] at h
    | some k =>
      rw [q] at h
      simp only [intO] at h
      have hk : k = i := by omega
      subst hk
      have := (List.findIdx?_eq_some_iff_getElem.1 q).2.2 j hj
      simp [e] at this
  · intro h
    have : l.findIdx? (fun b => decide (b.name = l[i].name)) = some i := List.findIdx?_eq_some_iff_getElem.2 ⟨hi, by simp, fun j hj => by simpa using h j hj⟩
    rw [this]; rfl
theorem dups_iff (seen l : List Int) (hs : seen.Nodup) : dups seen l = false ↔ (seen ++ l).Nodup := by
  have h0 : dups seen l = false ↔ ∀ k (hk : k < l.length), ¬ l[k] ∈ seen ++ l.take k := by
    unfold dups
    rw [Option.isSome_eq_false_iff, Option.isNone_iff_eq_none, firstN_isNone]
    constructor
    · intro h k hk c
      have := h k hk
      rw [dupAt_at hk] at this
      simp only [decide_eq_false_iff_not] at this
      exact this c
    · intro h k hk
      rw [dupAt_at hk]
      simpa using h k hk
  rw [h0]
  constructor
  · intro h
    have key : ∀ k, k ≤ l.length → (seen ++ l.take k).Nodup := by
      intro k
      induction k with
      | zero => intro _; simpa using hs
      | succ k ih =>
        intro hk
        rw [take_snoc l k (by omega), ← List.append_assoc, List.nodup_append]
        refine ⟨ih (by omega), by simp, fun a ha b hb e => ?_⟩
        simp only [List.mem_singleton] at hb
        subst hb
        subst e
        exact h k (by omega) ha
    have := key l.length (Nat.le_refl _)
    rwa [List.take_length] at this
  · intro h k hk c
    have e : l = l.take k ++ l[k] :: l.drop (k + 1) := by rw [← List.drop_eq_getElem_cons hk, List.take_append_drop]
    rw [e, ← List.append_assoc, List.nodup_append] at h
    exact h.2.2 _ c _ (List.mem_cons_self ..) rfl
theorem seen_iff (s : Store) : (∀ i (hi : i < s.boxes.length), dups (seenAt s i) (gidsOf s.boxes[i]) = false) ↔ (s.boxes.flatMap gidsOf).Nodup := by
  have ha : seenAt s s.boxes.length = s.boxes.flatMap gidsOf := by simp [seenAt]
  constructor
  · intro h
    have key : ∀ k, k ≤ s.boxes.length → (seenAt s k).Nodup := by
      intro k
      induction k with
      | zero => intro _; simp [seenAt]
      | succ k ih =>
        intro hk
        rw [seenAt_succ (by omega)]
        exact (dups_iff _ _ (ih (by omega))).1 (h k (by omega))
    rw [← ha]; exact key _ (Nat.le_refl _)
  · intro h i hi
    have hsub : (seenAt s (i + 1)).Sublist (s.boxes.flatMap gidsOf) := by
      have e : s.boxes.flatMap gidsOf = seenAt s (i + 1) ++ (s.boxes.drop (i + 1)).flatMap gidsOf := by
        rw [seenAt, ← List.flatMap_append, List.take_append_drop]
      rw [e]; exact List.sublist_append_left ..
    have h1 := h.sublist hsub
    rw [seenAt_succ hi] at h1
    exact (dups_iff _ _ (List.nodup_append.1 h1).1).2 h1
theorem storeOk_iff {s : Store} : storeOk s = true ↔ GoodS s := by
  have hsplit : (∀ i (hi : i < s.boxes.length), badAt s i = false) ↔ (∀ i (hi : i < s.boxes.length), badBox s i = false) ∧ (∀ i (hi : i < s.boxes.length), dups (seenAt s i) (gidsOf s.boxes[i]) = false) := by
    constructor
    · intro h
      exact ⟨fun i hi => by have := h i hi; rw [badAt_at hi, Bool.or_eq_false_iff] at this; exact this.1, fun i hi => by have := h i hi; rw [badAt_at hi, Bool.or_eq_false_iff] at this; exact this.2⟩
    · intro h i hi
      rw [badAt_at hi, Bool.or_eq_false_iff]
      exact ⟨h.1 i hi, h.2 i hi⟩
  have hbox : ∀ i (hi : i < s.boxes.length), badBox s i = false ↔ boxOk s.boxes[i] = true ∧ (0 < i → (s.boxes[i - 1]'(by omega)).gid < s.boxes[i].gid) ∧ (∀ j (hj : j < i), (s.boxes[j]'(by omega)).name ≠ s.boxes[i].name) ∧ ¬ s.boxes[i].gid ∈ s.gone ∧ late s.boxes[i] s.time = false := fun i hi => by
    rw [badBox_at hi, ← named_at i hi]
    simp only [Bool.or_eq_false_iff, Bool.not_eq_eq_eq_not, Bool.not_false, Bool.and_eq_false_imp, decide_eq_true_eq, decide_eq_false_iff_not, Int.not_le]
    constructor
    · rintro ⟨⟨⟨⟨h1, h2⟩, h3⟩, h4⟩, h5⟩; exact ⟨h1, h2, h3, h4, h5⟩
    · rintro ⟨h1, h2, h3, h4, h5⟩; exact ⟨⟨⟨⟨h1, h2⟩, h3⟩, h4⟩, h5⟩
  have hq : storeOk s = true ↔ ((((1 ≤ s.who ∧ s.who ≤ 2) ∧ 0 ≤ s.time ∧ s.time ≤ 100000) ∧ s.boxes.length ≤ 5) ∧ gidsOk s.gone 20 = true) ∧ ∀ i (hi : i < s.boxes.length), badAt s i = false := by
    simp only [storeOk, Bool.and_eq_true, decide_eq_true_eq, Option.isNone_iff_eq_none, firstN_isNone, inR_iff]
  rw [hq, hsplit, seen_iff]
  constructor
  · rintro ⟨⟨⟨⟨h1, h2⟩, h3⟩, h4⟩, h5, h6⟩
    obtain ⟨g1, g2, g3⟩ := gidsOk_iff.1 h4
    have hb := fun i hi => (hbox i hi).1 (h5 i hi)
    refine ⟨h1, h2, h3, g1, g2, by omega, fun b hbm => ?_, ?_, ?_, h6⟩
    · obtain ⟨i, hi, rfl⟩ := List.getElem_of_mem hbm
      exact ⟨boxOk_iff.1 (hb i hi).1, (hb i hi).2.2.2.1, (hb i hi).2.2.2.2⟩
    · have hA : Asc (s.boxes.map (·.gid)) := step_asc fun j hj => by
        simp only [List.length_map] at hj
        have := (hb (j + 1) hj).2.1 (by omega)
        simpa using this
      exact List.pairwise_map.1 hA
    · exact List.pairwise_iff_getElem.2 fun i j hi hj hij => (hb j hj).2.2.1 i hij
  · intro h
    refine ⟨⟨⟨⟨h.who, h.time⟩, h.len⟩, gidsOk_iff.2 ⟨h.gone, h.goneR, by have := h.goneL; omega⟩⟩, fun i hi => (hbox i hi).2 ⟨boxOk_iff.2 (h.box _ (List.getElem_mem hi)).1, fun q => List.pairwise_iff_getElem.1 h.asc (i - 1) i (by omega) hi (by omega), fun j hj => List.pairwise_iff_getElem.1 h.names j i (by omega) hi hj, (h.box _ (List.getElem_mem hi)).2.1, (h.box _ (List.getElem_mem hi)).2.2⟩, h.mails⟩
end Mx

namespace Mx
open Go
theorem flat_sub {l l' : List Box} (h : l.Sublist l') : (l.flatMap gidsOf).Sublist (l'.flatMap gidsOf) := by
  induction h with
  | slnil => exact List.Sublist.refl _
  | cons a _ ih => rw [List.flatMap_cons]; exact ih.trans (List.sublist_append_right _ _)
  | cons_cons a _ ih => rw [List.flatMap_cons, List.flatMap_cons]; exact List.Sublist.append (List.Sublist.refl _) ih
theorem stamped_ok {s : Store} (h : storeOk s = true) (i : Nat) (b : Box) : storeOk (stamped s i b).1 = true := by
  unfold stamped
  split
  · rename_i c; exact c
  · exact h
theorem at_ok {s : Store} (h : storeOk s = true) (g : Int) (f : Nat → Box → Store × Bool) (hf : ∀ i (hi : i < s.boxes.length), storeOk (f i s.boxes[i]).1 = true) : storeOk (at_ s g f).1 = true := by
  cases c : boxO s.boxes g with
  | none => rw [at_none c]; exact h
  | some i =>
    obtain ⟨hi, _⟩ := boxO_some c
    rw [at_some c hi]
    exact hf i hi
theorem putMail_ok {s : Store} (h : storeOk s = true) (g m f : Int) (x : List UInt8) : storeOk (putMail s g m f x).1 = true := by
  unfold putMail
  split
  · refine at_ok h _ _ fun i hi => ?_
    split
    · exact stamped_ok h _ _
    · exact h
  · exact h
theorem markMail_ok {s : Store} (h : storeOk s = true) (g m f : Int) : storeOk (markMail s g m f).1 = true := by
  unfold markMail
  rw [if_pos h]
  refine at_ok h _ _ fun i hi => ?_
  split
  · exact stamped_ok h _ _
  · exact h
theorem renameBox_ok {s : Store} (h : storeOk s = true) (g : Int) (nm : List UInt8) : storeOk (renameBox s g nm).1 = true := by
  unfold renameBox
  split
  · exact at_ok h _ _ fun i hi => stamped_ok h _ _
  · exact h
theorem makeBox_ok {s : Store} (h : storeOk s = true) (g : Int) (nm : List UInt8) : storeOk (makeBox s g nm).1 = true := by
  unfold makeBox
  split
  · split
    · rename_i c; exact c
    · exact h
  · exact h
theorem dropBox_ok {s : Store} (h : storeOk s = true) {g : Int} (hg : 1 ≤ g ∧ g ≤ 9999) : storeOk (dropBox s g).1 = true := by
  unfold dropBox
  split
  · rename_i c
    cases q : boxO s.boxes g with
    | none => rw [at_none q]; exact h
    | some i =>
      obtain ⟨hi, hbi⟩ := boxO_some q
      rw [at_some q hi]
      have G := storeOk_iff.1 h
      have hs := sub_take_drop s.boxes i
      have hgi := (boxIn_some hbi).2
      refine storeOk_iff.2 ⟨G.who, G.time, Nat.le_trans hs.length_le G.len, gput_asc G.gone, fun x hx => ?_, by have := gput_le s.gone g; simp only; omega, fun b hb => ?_, G.asc.sublist hs, G.names.sublist hs, G.mails.sublist (flat_sub hs)⟩
      · rcases gput_mem.1 hx with e | e
        · rw [e]; exact hg
        · exact G.goneR x e
      · obtain ⟨b1, b2, b3⟩ := G.box b (hs.subset hb)
        refine ⟨b1, fun e => ?_, b3⟩
        rcases gput_mem.1 e with e | e
        · rcases List.mem_append.1 hb with z | z
          · obtain ⟨j, hj, rfl⟩ := List.getElem_of_mem z
            simp only [List.length_take] at hj
            rw [List.getElem_take] at e
            have := List.pairwise_iff_getElem.1 G.asc j i (by omega) hi (by omega)
            omega
          · obtain ⟨j, hj, rfl⟩ := List.getElem_of_mem z
            rw [List.getElem_drop] at e
            have := List.pairwise_iff_getElem.1 G.asc i (i + 1 + j) hi (by simp at hj; omega) (by omega)
            omega
        · exact b2 e
  · exact h
theorem takeOut_parts {b : Box} (hb : Good b) {m : Int} (ok : (takeOut b m).2 = true) : Good (takeOut b m).1 ∧ (takeOut b m).1.gid = b.gid ∧ (takeOut b m).1.name = b.name ∧ (takeOut b m).1.time = b.time ∧ (takeOut b m).1.mails.Sublist b.mails := by
  unfold takeOut at ok ⊢
  cases q : mailO b.mails m with
  | none => rw [q] at ok; cases ok
  | some k =>
    rw [q] at ok
    simp only at ok ⊢
    obtain ⟨hlt, he, _⟩ := mailO_some q
    by_cases c : boxOk b = true ∧ b.gone.length < 40
    · rw [if_pos c]
      have := good_take hb hlt c.2
      rw [he] at this
      exact ⟨this, rfl, rfl, rfl, sub_take_drop b.mails k⟩
    · rw [if_neg c] at ok; cases ok
theorem dropMail_ok {s : Store} (h : storeOk s = true) (g m : Int) : storeOk (dropMail s g m).1 = true := by
  unfold dropMail
  rw [if_pos h]
  refine at_ok h _ _ fun i hi => ?_
  split
  · rename_i c
    have G := storeOk_iff.1 h
    obtain ⟨b1, b2, b3⟩ := G.box _ (List.getElem_mem hi)
    obtain ⟨t1, t2, t3, t4, t5⟩ := takeOut_parts b1 c
    generalize (takeOut s.boxes[i] m).1 = b' at *
    have e1 : (s.boxes.set i b').map (·.gid) = s.boxes.map (·.gid) := by
      rw [List.map_set]; apply List.ext_getElem <;> simp [List.getElem_set]; intro j hj h2; subst h2; exact t2
    have e2 : (s.boxes.set i b').map (·.name) = s.boxes.map (·.name) := by
      rw [List.map_set]; apply List.ext_getElem <;> simp [List.getElem_set]; intro j hj h2; subst h2; exact t3
    refine storeOk_iff.2 ⟨G.who, G.time, by simpa using G.len, G.gone, G.goneR, G.goneL, fun b hb => ?_, ?_, ?_, ?_⟩
    · rcases List.mem_or_eq_of_mem_set hb with q | q
      · exact G.box b q
      · subst q
        refine ⟨t1, by rw [t2]; exact b2, ?_⟩
        unfold late at b3 ⊢
        simp only [Bool.or_eq_false_iff, List.any_eq_false] at b3 ⊢
        rw [t4]
        exact ⟨b3.1, fun x hx => b3.2 x (t5.subset hx)⟩
    · have : (s.boxes.map (·.gid)).Pairwise (fun a b : Int => a < b) := List.pairwise_map.2 G.asc
      rw [← e1] at this
      exact List.pairwise_map.1 this
    · have : (s.boxes.map (·.name)).Pairwise (fun a b : List UInt8 => a ≠ b) := List.pairwise_map.2 G.names
      rw [← e2] at this
      exact List.pairwise_map.1 this
    · have e : s.boxes.set i b' = s.boxes.take i ++ b' :: s.boxes.drop (i + 1) := List.set_eq_take_append_cons_drop.trans (by rw [if_pos hi])
      have e' : s.boxes = s.boxes.take i ++ s.boxes[i] :: s.boxes.drop (i + 1) := by rw [← List.drop_eq_getElem_cons hi, List.take_append_drop]
      have hm := G.mails
      rw [e'] at hm
      simp only
      rw [e]
      refine hm.sublist ?_
      simp only [List.flatMap_append, List.flatMap_cons]
      exact List.Sublist.append (List.Sublist.refl _) (List.Sublist.append (t5.map _) (List.Sublist.refl _))
  · exact h
end Mx

namespace Mx
open Go
variable {M : Nat → Option Body}
structure UzS where
  i : Nat
  s : Store
  w : Bool
  v1 : Nat
  v2 : Nat
  ic : Nat
  q : Int
  n : Nat
structure UzC where
  R : List (List T)
  u5 : Nat
  u8 : Nat
  N : Nat
  base : Nat
def uzB (s : UzS) : List T := if s.w = true then [I s.s.who, I s.s.time, .row 15502 s.v1 0 s.s.boxes.length, .row 15503 s.v2 0 s.s.gone.length] else encStore s.s
def uzX (s : UzS) : List (Nat × Ob) := if s.w = true then [(15502, ⟨s.v1, 7, true, false, s.s.boxes.map encBox⟩), (15503, ⟨s.v2, 1, true, false, irow s.s.gone⟩)] else []
def uzO (c : UzC) (s : UzS) : List (Nat × Ob) := curD c.R s.ic s.q :: (5, ⟨c.u5, 4, true, true, [uzB s]⟩) :: (8, ⟨c.u8, 4, true, true, [szero]⟩) :: uzX s
def uzT (c : UzC) (i : Nat) (e : List (Nat × V)) : List (Nat × V) := (0, .c (.ptr 0 0 0 0)) :: (2, .c (I c.N)) :: (3, .c (I c.base)) :: (5, .c (.ptr 5 c.u5 0 0)) :: (8, .c (.ptr 8 c.u8 0 0)) :: (9, .c (I i)) :: e
def uzS (c : UzC) (s : UzS) (e : List (Nat × V)) : St := { t := uzT c s.i e, o := uzO c s, n := s.n }
def uzR (c : UzC) (i : Nat) (s : Store) (w : Bool) (ic : Nat) (q : Int) (e : List (Nat × V)) (y : Nat × Nat × Nat) : St := uzS c ⟨i, s, w, y.1, y.2.1, ic, q, y.2.2⟩ e
/-- ahead of what is done: the box, the mail, the number -/
abbrev uyE (box gid x : Int) : List (Nat × V) := [(10, .c (I box)), (11, .c (I gid)), (13, .c (I x))]
def UzD (M : Nat → Option Body) (c : UzC) (k : Nat) (s : UzS) (box gid x : Int) (s' : Store) (ic' : Nat) (q' : Int) : Prop :=
  ∃ v1' v2' n', exC (run M) k spec_l07Use.br (uzS c s (uyE box gid x)) = some (.normal, uzS c ⟨s.i, s', true, v1', v2', ic', q', n'⟩ [])
structure UzF (s : UzS) : Prop where
  e7 : (s.s.boxes.map encBox).length = s.s.boxes.length
  e8 : (irow s.s.gone).length = s.s.gone.length
theorem uzF (s : UzS) : UzF s := ⟨by simp, irow_length _⟩
set_option maxHeartbeats 4000000 in
theorem uz_put (c : UzC) (k : Nat) (s : UzS) (box gid x : Int) (f ic1 ic2 : Nat) (tx : ByteArray) (q1 q2 : Int) (s' : Store) (ok : Bool) (hb : ¬ box = 0) (hx : ¬ x = 0) (hx6 : x < 6) (hbase : c.base ≤ 1000) (hi : s.i ≤ 1000)
    (h1 : run M 125 [.c (.ptr 0 0 0 0), .c (I 8)] [curD c.R s.ic s.q] = some (.c (I f), [curD c.R ic1 q1]))
    (h2 : run M 174 [.c (.ptr 0 0 0 0)] [curD c.R ic1 q1] = some (.c (.str tx), [curD c.R ic2 q2]))
    (h3 : run M 279 [.a (encStore s.s), .c (I box), .c (I ((c.base : Int) + (s.i : Int))), .c (I f), .c (.str tx)] [] = some (.tup [.a (encStoreO s'), .c (.bool ok)], [])) :
    UzD M c k s box gid x s' ic2 q2 := by
  have e4 : IntKind.i64.wrap ((c.base : Int) + (s.i : Int)) = (c.base : Int) + (s.i : Int) := wrap_i64 (by omega) (by omega)
  obtain ⟨e7, e8⟩ := uzF s
  have e9 : (s'.boxes.map encBox).length = s'.boxes.length := by simp
  have e10 := irow_length s'.gone
  obtain ⟨R, u5, u8, N, base⟩ := c
  obtain ⟨i, st, w, v1, v2, ic, q, n⟩ := s
  simp only at *
  simp only [UzD, uzS, uzT, uzO, uzB, uzX, uyE]
  simp only [encStore, encStoreO, boxes, ints] at h3 ⊢
  have m1 : (st.boxes.map encBox).take st.boxes.length = st.boxes.map encBox := List.take_of_length_le (by omega)
  have m2 : (irow st.gone).take st.gone.length = irow st.gone := List.take_of_length_le (by omega)
  generalize s'.boxes.map encBox = rb' at *
  generalize irow s'.gone = rg' at *
  generalize st.boxes.map encBox = rb at *
  generalize irow st.gone = rg at *
  cases w
  · simp only [Bool.false_eq_true, if_false]
    simp (maxSteps := 1000000) [spec_l07Use.br, List.range_succ, bs_get, setAt, h1, h2, h3, hb, hx, hx6, e4, e7, e8, e9, e10, m1, m2]
  · simp only [if_true]
    simp (maxSteps := 1000000) [spec_l07Use.br, List.range_succ, bs_get, setAt, h1, h2, h3, hb, hx, hx6, e4, e7, e8, e9, e10, m1, m2]
set_option maxHeartbeats 4000000 in
theorem uz_mark (c : UzC) (k : Nat) (s : UzS) (box gid x : Int) (f ic1 : Nat) (q1 : Int) (s' : Store) (ok : Bool) (hb : ¬ box = 0) (hx : ¬ x = 0) (hx6 : ¬ x < 6) (hx9 : x < 9)
    (h1 : run M 125 [.c (.ptr 0 0 0 0), .c (I 8)] [curD c.R s.ic s.q] = some (.c (I f), [curD c.R ic1 q1]))
    (h3 : run M 280 [.a (encStore s.s), .c (I box), .c (I gid), .c (I f)] [] = some (.tup [.a (encStoreO s'), .c (.bool ok)], [])) :
    UzD M c k s box gid x s' ic1 q1 := by
  obtain ⟨e7, e8⟩ := uzF s
  have e9 : (s'.boxes.map encBox).length = s'.boxes.length := by simp
  have e10 := irow_length s'.gone
  obtain ⟨R, u5, u8, N, base⟩ := c
  obtain ⟨i, st, w, v1, v2, ic, q, n⟩ := s
  simp only at *
  simp only [UzD, uzS, uzT, uzO, uzB, uzX, uyE]
  simp only [encStore, encStoreO, boxes, ints] at h3 ⊢
  have m1 : (st.boxes.map encBox).take st.boxes.length = st.boxes.map encBox := List.take_of_length_le (by omega)
  have m2 : (irow st.gone).take st.gone.length = irow st.gone := List.take_of_length_le (by omega)
  generalize s'.boxes.map encBox = rb' at *
  generalize irow s'.gone = rg' at *
  generalize st.boxes.map encBox = rb at *
  generalize irow st.gone = rg at *
  cases w
  · simp only [Bool.false_eq_true, if_false]
    simp (maxSteps := 1000000) [spec_l07Use.br, List.range_succ, bs_get, setAt, h1, h3, hb, hx, hx6, hx9, e7, e8, e9, e10, m1, m2]
  · simp only [if_true]
    simp (maxSteps := 1000000) [spec_l07Use.br, List.range_succ, bs_get, setAt, h1, h3, hb, hx, hx6, hx9, e7, e8, e9, e10, m1, m2]
set_option maxHeartbeats 4000000 in
theorem uz_drop (c : UzC) (k : Nat) (s : UzS) (box gid x : Int) (s' : Store) (ok : Bool) (hb : ¬ box = 0) (hx : x = 9)
    (h3 : run M 281 [.a (encStore s.s), .c (I box), .c (I gid)] [] = some (.tup [.a (encStoreO s'), .c (.bool ok)], [])) :
    UzD M c k s box gid x s' s.ic s.q := by
  subst hx
  obtain ⟨e7, e8⟩ := uzF s
  have e9 : (s'.boxes.map encBox).length = s'.boxes.length := by simp
  have e10 := irow_length s'.gone
  obtain ⟨R, u5, u8, N, base⟩ := c
  obtain ⟨i, st, w, v1, v2, ic, q, n⟩ := s
  simp only at *
  simp only [UzD, uzS, uzT, uzO, uzB, uzX, uyE]
  simp only [encStore, encStoreO, boxes, ints] at h3 ⊢
  have m1 : (st.boxes.map encBox).take st.boxes.length = st.boxes.map encBox := List.take_of_length_le (by omega)
  have m2 : (irow st.gone).take st.gone.length = irow st.gone := List.take_of_length_le (by omega)
  generalize s'.boxes.map encBox = rb' at *
  generalize irow s'.gone = rg' at *
  generalize st.boxes.map encBox = rb at *
  generalize irow st.gone = rg at *
  cases w
  · simp only [Bool.false_eq_true, if_false]
    simp (maxSteps := 1000000) [spec_l07Use.br, List.range_succ, bs_get, setAt, h3, hb, e7, e8, e9, e10, m1, m2]
  · simp only [if_true]
    simp (maxSteps := 1000000) [spec_l07Use.br, List.range_succ, bs_get, setAt, h3, hb, e7, e8, e9, e10, m1, m2]
def nm4 : List (List UInt8) := [[105, 110, 98, 111, 120], [119, 111, 114, 107], [110, 101, 119], [111, 116, 104, 101, 114]]
def nm3 : List (List UInt8) := [[105, 110, 98, 111, 120], [119, 111, 114, 107], [111, 108, 100]]
set_option maxHeartbeats 4000000 in
theorem uz_name (c : UzC) (k : Nat) (s : UzS) (box gid x : Int) (ic1 : Nat) (tx : ByteArray) (q1 : Int) (s' : Store) (ok : Bool) (hb : ¬ box = 0) (hx : x = 10)
    (h1 : run M 185 [.c (.ptr 0 0 0 0), .c (.sl false 1 (nm4.map fun s => [S s]))] [curD c.R s.ic s.q] = some (.c (.str tx), [curD c.R ic1 q1]))
    (h3 : run M 282 [.a (encStore s.s), .c (I box), .c (.str tx)] [] = some (.tup [.a (encStoreO s'), .c (.bool ok)], [])) :
    UzD M c k s box gid x s' ic1 q1 := by
  subst hx
  obtain ⟨e7, e8⟩ := uzF s
  have e9 : (s'.boxes.map encBox).length = s'.boxes.length := by simp
  have e10 := irow_length s'.gone
  simp only [nm4, List.map_cons, List.map_nil, bs] at h1
  obtain ⟨R, u5, u8, N, base⟩ := c
  obtain ⟨i, st, w, v1, v2, ic, q, n⟩ := s
  simp only at *
  simp only [UzD, uzS, uzT, uzO, uzB, uzX, uyE]
  simp only [encStore, encStoreO, boxes, ints] at h3 ⊢
  have m1 : (st.boxes.map encBox).take st.boxes.length = st.boxes.map encBox := List.take_of_length_le (by omega)
  have m2 : (irow st.gone).take st.gone.length = irow st.gone := List.take_of_length_le (by omega)
  generalize s'.boxes.map encBox = rb' at *
  generalize irow s'.gone = rg' at *
  generalize st.boxes.map encBox = rb at *
  generalize irow st.gone = rg at *
  cases w
  · simp only [Bool.false_eq_true, if_false]
    simp (maxSteps := 1000000) [spec_l07Use.br, List.range_succ, bs_get, setAt, h1, h3, hb, e7, e8, e9, e10, m1, m2]
  · simp only [if_true]
    simp (maxSteps := 1000000) [spec_l07Use.br, List.range_succ, bs_get, setAt, h1, h3, hb, e7, e8, e9, e10, m1, m2]
set_option maxHeartbeats 4000000 in
theorem uz_make (c : UzC) (k : Nat) (s : UzS) (box gid x : Int) (ic1 : Nat) (tx : ByteArray) (q1 : Int) (s' : Store) (ok : Bool) (hb : box = 0 ∨ x = 0) (hbase : c.base ≤ 1000) (hi : s.i ≤ 1000)
    (h1 : run M 185 [.c (.ptr 0 0 0 0), .c (.sl false 1 (nm3.map fun s => [S s]))] [curD c.R s.ic s.q] = some (.c (.str tx), [curD c.R ic1 q1]))
    (h3 : run M 278 [.a (encStore s.s), .c (I ((c.base : Int) + (s.i : Int))), .c (.str tx)] [] = some (.tup [.a (encStoreO s'), .c (.bool ok)], [])) :
    UzD M c k s box gid x s' ic1 q1 := by
  have e4 : IntKind.i64.wrap ((c.base : Int) + (s.i : Int)) = (c.base : Int) + (s.i : Int) := wrap_i64 (by omega) (by omega)
  obtain ⟨e7, e8⟩ := uzF s
  have e9 : (s'.boxes.map encBox).length = s'.boxes.length := by simp
  have e10 := irow_length s'.gone
  simp only [nm3, List.map_cons, List.map_nil, bs] at h1
  obtain ⟨R, u5, u8, N, base⟩ := c
  obtain ⟨i, st, w, v1, v2, ic, q, n⟩ := s
  simp only at *
  simp only [UzD, uzS, uzT, uzO, uzB, uzX, uyE]
  simp only [encStore, encStoreO, boxes, ints] at h3 ⊢
  have m1 : (st.boxes.map encBox).take st.boxes.length = st.boxes.map encBox := List.take_of_length_le (by omega)
  have m2 : (irow st.gone).take st.gone.length = irow st.gone := List.take_of_length_le (by omega)
  generalize s'.boxes.map encBox = rb' at *
  generalize irow s'.gone = rg' at *
  generalize st.boxes.map encBox = rb at *
  generalize irow st.gone = rg at *
  by_cases hb0 : box = 0
  · subst hb0
    cases w
    · simp only [Bool.false_eq_true, if_false]
      simp (maxSteps := 1000000) [spec_l07Use.br, List.range_succ, bs_get, setAt, h1, h3, e4, e7, e8, e9, e10, m1, m2]
    · simp only [if_true]
      simp (maxSteps := 1000000) [spec_l07Use.br, List.range_succ, bs_get, setAt, h1, h3, e4, e7, e8, e9, e10, m1, m2]
  · have hx : x = 0 := by omega
    subst hx
    cases w
    · simp only [Bool.false_eq_true, if_false]
      simp (maxSteps := 1000000) [spec_l07Use.br, List.range_succ, bs_get, setAt, h1, h3, hb0, e4, e7, e8, e9, e10, m1, m2]
    · simp only [if_true]
      simp (maxSteps := 1000000) [spec_l07Use.br, List.range_succ, bs_get, setAt, h1, h3, hb0, e4, e7, e8, e9, e10, m1, m2]
set_option maxHeartbeats 4000000 in
theorem uz_lose (c : UzC) (k : Nat) (s : UzS) (box gid x : Int) (ic1 : Nat) (q1 : Int) (s' : Store) (ok : Bool) (hb : ¬ box = 0) (hx : 11 ≤ x)
    (h1 : run M 175 [.c (.ptr 0 0 0 0), .c (I 3)] [curD c.R s.ic s.q] = some (.c (.bool true), [curD c.R ic1 q1]))
    (h3 : run M 283 [.a (encStore s.s), .c (I box)] [] = some (.tup [.a (encStoreO s'), .c (.bool ok)], [])) :
    UzD M c k s box gid x s' ic1 q1 := by
  have x0 : ¬ x = 0 := by omega
  have x6 : ¬ x < 6 := by omega
  have x9 : ¬ x < 9 := by omega
  have y9 : ¬ x = 9 := by omega
  have y10 : ¬ x = 10 := by omega
  obtain ⟨e7, e8⟩ := uzF s
  have e9 : (s'.boxes.map encBox).length = s'.boxes.length := by simp
  have e10 := irow_length s'.gone
  obtain ⟨R, u5, u8, N, base⟩ := c
  obtain ⟨i, st, w, v1, v2, ic, q, n⟩ := s
  simp only at *
  simp only [UzD, uzS, uzT, uzO, uzB, uzX, uyE]
  simp only [encStore, encStoreO, boxes, ints] at h3 ⊢
  have m1 : (st.boxes.map encBox).take st.boxes.length = st.boxes.map encBox := List.take_of_length_le (by omega)
  have m2 : (irow st.gone).take st.gone.length = irow st.gone := List.take_of_length_le (by omega)
  generalize s'.boxes.map encBox = rb' at *
  generalize irow s'.gone = rg' at *
  generalize st.boxes.map encBox = rb at *
  generalize irow st.gone = rg at *
  cases w
  · simp only [Bool.false_eq_true, if_false]
    simp (maxSteps := 1000000) [spec_l07Use.br, List.range_succ, bs_get, setAt, h1, h3, hb, x0, x6, x9, y9, y10, e7, e8, e9, e10, m1, m2]
  · simp only [if_true]
    simp (maxSteps := 1000000) [spec_l07Use.br, List.range_succ, bs_get, setAt, h1, h3, hb, x0, x6, x9, y9, y10, e7, e8, e9, e10, m1, m2]
set_option maxHeartbeats 4000000 in
theorem uz_stay (c : UzC) (k : Nat) (s : UzS) (box gid x : Int) (ic1 : Nat) (q1 : Int) (hb : ¬ box = 0) (hx : 11 ≤ x)
    (h1 : run M 175 [.c (.ptr 0 0 0 0), .c (I 3)] [curD c.R s.ic s.q] = some (.c (.bool false), [curD c.R ic1 q1])) :
    ∃ n', exC (run M) k spec_l07Use.br (uzS c s (uyE box gid x)) = some (.normal, uzS c ⟨s.i, s.s, s.w, s.v1, s.v2, ic1, q1, n'⟩ [(10, .c (I box)), (51, .c (.bool false))]) := by
  have x0 : ¬ x = 0 := by omega
  have x6 : ¬ x < 6 := by omega
  have x9 : ¬ x < 9 := by omega
  have y9 : ¬ x = 9 := by omega
  have y10 : ¬ x = 10 := by omega
  obtain ⟨R, u5, u8, N, base⟩ := c
  obtain ⟨i, st, w, v1, v2, ic, q, n⟩ := s
  simp only at *
  simp only [uzS, uzT, uzO, uzB, uzX, uyE]
  simp only [encStore, boxes, ints]
  generalize st.boxes.map encBox = rb at *
  generalize irow st.gone = rg at *
  cases w
  · simp only [Bool.false_eq_true, if_false]
    simp (maxSteps := 1000000) [spec_l07Use.br, List.range_succ, bs_get, setAt, h1, hb, x0, x6, x9, y9, y10]
  · simp only [if_true]
    simp (maxSteps := 1000000) [spec_l07Use.br, List.range_succ, bs_get, setAt, h1, hb, x0, x6, x9, y9, y10]
end Mx

namespace Mx
open Go
variable {M : Nat → Option Body}
/-- what stands ahead: no box, no mail -/
abbrev uxE : List (Nat × V) := [(10, .c (I 0)), (11, .c (I 0))]
set_option maxHeartbeats 4000000 in
theorem uz_hd0 (c : UzC) (k : Nat) (s : UzS) (x : Int) (ic1 : Nat) (q1 : Int) (hbx : s.s.boxes = [])
    (h1 : run M 125 [.c (.ptr 0 0 0 0), .c (I 12)] [curD c.R s.ic s.q] = some (.c (I x), [curD c.R ic1 q1]))
    (X : Nat → St) (hX : ∀ n, exC (run M) k spec_l07Use.br (uzS c ⟨s.i, s.s, s.w, s.v1, s.v2, ic1, q1, n⟩ (uyE 0 0 x)) = some (.normal, X n)) :
    ∃ n, exC (run M) k spec_l07Use.hd (uzS c s uxE) = some (.normal, X n) := by
  obtain ⟨R, u5, u8, N, base⟩ := c
  obtain ⟨i, st, w, v1, v2, ic, q, n⟩ := s
  simp only at *
  simp only [uzS, uzT, uzO, uzB, uzX, uyE, uxE] at hX ⊢
  simp only [encStore, boxes, ints, hbx, List.map_nil, List.length_nil] at hX ⊢
  generalize irow st.gone = rg at *
  cases w
  · simp only [Bool.false_eq_true, if_false] at hX ⊢
    simp (maxSteps := 1000000) [spec_l07Use.hd, List.range_succ, bs_get, setAt, h1, hX]
    exact ⟨_, rfl⟩
  · simp only [if_true] at hX ⊢
    simp (maxSteps := 1000000) [spec_l07Use.hd, List.range_succ, bs_get, setAt, h1, hX]
    exact ⟨_, rfl⟩
set_option maxHeartbeats 4000000 in
theorem uz_hd1 (c : UzC) (k : Nat) (s : UzS) (x : Int) (j ic0 ic1 : Nat) (q0 q1 : Int) (hj : j < s.s.boxes.length) (hm : s.s.boxes[j].mails = [])
    (h0 : run M 125 [.c (.ptr 0 0 0 0), .c (I s.s.boxes.length)] [curD c.R s.ic s.q] = some (.c (I j), [curD c.R ic0 q0]))
    (h1 : run M 125 [.c (.ptr 0 0 0 0), .c (I 12)] [curD c.R ic0 q0] = some (.c (I x), [curD c.R ic1 q1]))
    (X : Nat → St) (hX : ∀ n, exC (run M) k spec_l07Use.br (uzS c ⟨s.i, s.s, s.w, s.v1, s.v2, ic1, q1, n⟩ (uyE s.s.boxes[j].gid 0 x)) = some (.normal, X n)) :
    ∃ n, exC (run M) k spec_l07Use.hd (uzS c s uxE) = some (.normal, X n) := by
  obtain ⟨e7, e8⟩ := uzF s
  obtain ⟨R, u5, u8, N, base⟩ := c
  obtain ⟨i, st, w, v1, v2, ic, q, n⟩ := s
  simp only at *
  have hj' : j < st.boxes.length := hj
  have a1 : ∀ hh, (st.boxes.map encBox)[j]'hh = encBox st.boxes[j] := by intro hh; simp
  have m1 : (st.boxes.map encBox).take st.boxes.length = st.boxes.map encBox := List.take_of_length_le (by omega)
  have hl : 0 < st.boxes.length := by omega
  simp only [uzS, uzT, uzO, uzB, uzX, uyE, uxE] at hX ⊢
  simp only [encBox, mails, ints, hm, List.map_nil] at a1
  simp only [encStore, boxes, ints] at hX ⊢
  generalize st.boxes[j] = b at *
  generalize st.boxes.map encBox = rb at *
  generalize irow st.gone = rg at *
  generalize irow b.gone = rbg at *
  generalize st.boxes.length = nb at *
  cases w
  · simp only [Bool.false_eq_true, if_false] at hX ⊢
    simp (maxSteps := 1000000) [spec_l07Use.hd, List.range_succ, bs_get, setAt, h0, h1, hX, hl, hj, e7, a1, m1]
    exact ⟨_, rfl⟩
  · simp only [if_true] at hX ⊢
    simp (maxSteps := 1000000) [spec_l07Use.hd, List.range_succ, bs_get, setAt, h0, h1, hX, hl, hj, e7, a1, m1]
    exact ⟨_, rfl⟩
set_option maxHeartbeats 4000000 in
theorem uz_hd2 (c : UzC) (k : Nat) (s : UzS) (x : Int) (j l ic0 ic1 ic2 : Nat) (q0 q1 q2 : Int) (hj : j < s.s.boxes.length) (hl : l < s.s.boxes[j].mails.length)
    (h0 : run M 125 [.c (.ptr 0 0 0 0), .c (I s.s.boxes.length)] [curD c.R s.ic s.q] = some (.c (I j), [curD c.R ic0 q0]))
    (h2 : run M 125 [.c (.ptr 0 0 0 0), .c (I s.s.boxes[j].mails.length)] [curD c.R ic0 q0] = some (.c (I l), [curD c.R ic2 q2]))
    (h1 : run M 125 [.c (.ptr 0 0 0 0), .c (I 12)] [curD c.R ic2 q2] = some (.c (I x), [curD c.R ic1 q1]))
    (X : Nat → St) (hX : ∀ n, exC (run M) k spec_l07Use.br (uzS c ⟨s.i, s.s, s.w, s.v1, s.v2, ic1, q1, n⟩ (uyE s.s.boxes[j].gid (s.s.boxes[j].mails[l]).gid x)) = some (.normal, X n)) :
    ∃ n, exC (run M) k spec_l07Use.hd (uzS c s uxE) = some (.normal, X n) := by
  obtain ⟨e7, e8⟩ := uzF s
  obtain ⟨R, u5, u8, N, base⟩ := c
  obtain ⟨i, st, w, v1, v2, ic, q, n⟩ := s
  simp only at *
  have hj' : j < st.boxes.length := hj
  have hl' : l < st.boxes[j].mails.length := hl
  have a1 : ∀ hh, (st.boxes.map encBox)[j]'hh = encBox st.boxes[j] := by intro hh; simp
  have a2 : ∀ hh : l < (st.boxes[j].mails.map encMail).length, (st.boxes[j].mails.map encMail)[l]'hh = encMail (st.boxes[j].mails[l]'hl') := by intro hh; simp
  have e9 : (st.boxes[j].mails.map encMail).length = st.boxes[j].mails.length := by simp
  have m1 : (st.boxes.map encBox).take st.boxes.length = st.boxes.map encBox := List.take_of_length_le (by omega)
  have m2 : (st.boxes[j].mails.map encMail).take st.boxes[j].mails.length = st.boxes[j].mails.map encMail := List.take_of_length_le (by omega)
  have hl0 : 0 < st.boxes.length := by omega
  have hl1 : 0 < st.boxes[j].mails.length := by omega
  simp only [uzS, uzT, uzO, uzB, uzX, uyE, uxE] at hX ⊢
  simp only [encBox, mails, ints] at a1
  simp only [encMail] at a2
  simp only [encStore, boxes, ints] at hX ⊢
  generalize st.boxes[j].mails[l] = m at *
  generalize st.boxes[j].mails.map encMail = rm at *
  generalize st.boxes[j].mails.length = nm at *
  generalize st.boxes[j] = b at *
  generalize st.boxes.map encBox = rb at *
  generalize irow st.gone = rg at *
  generalize irow b.gone = rbg at *
  generalize st.boxes.length = nb at *
  cases w
  · simp only [Bool.false_eq_true, if_false] at hX ⊢
    simp (maxSteps := 1000000) [spec_l07Use.hd, List.range_succ, bs_get, setAt, h0, h1, h2, hX, hl, hl0, hl1, hj, e7, e9, a1, a2, m1, m2]
    exact ⟨_, rfl⟩
  · simp only [if_true] at hX ⊢
    simp (maxSteps := 1000000) [spec_l07Use.hd, List.range_succ, bs_get, setAt, h0, h1, h2, hX, hl, hl0, hl1, hj, e7, e9, a1, a2, m1, m2]
    exact ⟨_, rfl⟩
/-- behind what is done, where nothing was -/
abbrev uwE (e : Bool) (g : Int) : List (Nat × V) := if e = true then [(10, .c (I g)), (51, .c (.bool false))] else []
set_option maxHeartbeats 4000000 in
theorem uz_l0 (c : UzC) (k : Nat) (s : UzS) (st' : Store) (w' : Bool) (ic' : Nat) (q' : Int) (e : Bool) (g : Int) (hi : s.i < c.N) (hN : c.N ≤ 1000)
    (hX : ∀ n, ∃ y, exC (run M) k spec_l07Use.hd (uzS c { s with n := n } uxE) = some (.normal, uzR c s.i st' w' ic' q' (uwE e g) y)) :
    ∃ y, exC (run M) k spec_l07Use.l0 (uzS c s []) = some (.normal, uzR c (s.i + 1) st' w' ic' q' [] y) := by
  obtain ⟨X, hX⟩ := Classical.skolem.1 hX
  obtain ⟨R, u5, u8, N, base⟩ := c
  obtain ⟨i, st, w, v1, v2, ic, q, n⟩ := s
  simp only at *
  have e5 := wrap1 (i := i) (by omega)
  simp only [uzR, uzS, uzT, uzO, uzB, uzX, uxE, uwE] at hX ⊢
  simp only [encStore, boxes, ints] at hX ⊢
  generalize st.boxes.map encBox = rb at *
  generalize irow st.gone = rg at *
  generalize st'.boxes.map encBox = rb' at *
  generalize irow st'.gone = rg' at *
  cases w <;> cases w' <;> cases e <;> simp only [Bool.false_eq_true, if_false, if_true] at hX ⊢ <;> simp (maxSteps := 1000000) [spec_l07Use.l0, List.range_succ, bs_get, setAt, hX, hi, e5] <;> exact ⟨_, _, _, ⟨⟨rfl, rfl⟩, rfl, rfl⟩, rfl⟩
theorem uz_end (c : UzC) (k : Nat) (s : UzS) (hi : ¬ s.i < c.N) :
    ∃ n', exC (run M) k spec_l07Use.l0 (uzS c s []) = some (.exit 0, uzS c { s with n := n' } [(16, .c (.bool false))]) := by
  obtain ⟨R, u5, u8, N, base⟩ := c
  obtain ⟨i, st, w, v1, v2, ic, q, n⟩ := s
  simp only at *
  simp only [uzS, uzT, uzO, uzB, uzX]
  simp only [encStore, boxes, ints]
  generalize st.boxes.map encBox = rb at *
  generalize irow st.gone = rg at *
  cases w <;> simp only [Bool.false_eq_true, if_false, if_true] <;> simp (maxSteps := 1000000) [spec_l07Use.l0, List.range_succ, bs_get, setAt, hi]
end Mx

namespace Mx
open Go
/-- the numbers that a box knows -/
def KnB (b : Box) (g : Int) : Prop := b.gid = g ∨ g ∈ b.gone ∨ ∃ m ∈ b.mails, m.gid = g
/-- the numbers that a store knows -/
def Kn (s : Store) (g : Int) : Prop := (∃ b ∈ s.boxes, KnB b g) ∨ g ∈ s.gone
def names5 : List (List UInt8) := [[105, 110, 98, 111, 120], [119, 111, 114, 107], [110, 101, 119], [111, 116, 104, 101, 114], [111, 108, 100]]
/-- a box as it comes to lie in a used store -/
structure UsedB (b : Box) : Prop where
  name : b.name ∈ names5
  kn : ∀ g, KnB b g → 100 ≤ g ∧ g ≤ 999
structure Used (n : Nat) (s : Store) : Prop where
  ok : storeOk s = true
  time : s.time ≤ n
  gone : s.gone.length ≤ n
  box : ∀ b ∈ s.boxes, UsedB b
  kn : ∀ g ∈ s.gone, 100 ≤ g ∧ g ≤ 999
theorem Used.all {n : Nat} {s : Store} (h : Used n s) {g : Int} (k : Kn s g) : 100 ≤ g ∧ g ≤ 999 := by
  rcases k with ⟨b, h1, h2⟩ | k
  · exact (h.box b h1).kn g h2
  · exact h.kn g k
theorem Used.mono {n m : Nat} {s : Store} (h : Used n s) (hm : n ≤ m) : Used m s := ⟨h.ok, by have := h.time; omega, by have := h.gone; omega, h.box, h.kn⟩
theorem used_new {w : Int} (h1 : 1 ≤ w) (h2 : w ≤ 2) : Used 0 ⟨w, 0, [], []⟩ :=
  ⟨storeOk_iff.2 ⟨⟨h1, h2⟩, by simp, by simp, List.Pairwise.nil, by simp, by simp, by simp, List.Pairwise.nil, List.Pairwise.nil, List.nodup_nil⟩, by simp, by simp, by simp, by simp⟩
theorem used_stamped {n : Nat} {s : Store} (h : Used n s) (i : Nat) {b : Box} (hb : UsedB b) : Used (n + 1) (stamped s i b).1 := by
  have hok := stamped_ok h.ok i b
  unfold stamped at hok ⊢
  split
  · rename_i c
    rw [if_pos c] at hok
    refine ⟨hok, by have := h.time; simp only [stampedTo]; omega, by have := h.gone; simp only [stampedTo]; omega, fun x hx => ?_, h.kn⟩
    rcases List.mem_or_eq_of_mem_set hx with q | q
    · exact h.box x q
    · rw [q]; exact hb
  · exact h.mono (by omega)
theorem used_at {n : Nat} {s : Store} (h : Used n s) (g : Int) (f : Nat → Box → Store × Bool) (hf : ∀ i (hi : i < s.boxes.length), s.boxes[i].gid = g → Used (n + 1) (f i s.boxes[i]).1) : Used (n + 1) (at_ s g f).1 := by
  cases c : boxO s.boxes g with
  | none => rw [at_none c]; exact h.mono (by omega)
  | some i =>
    obtain ⟨hi, hb⟩ := boxO_some c
    rw [at_some c hi]
    exact hf i hi (boxIn_some hb).2
theorem usedB_add {b : Box} (h : UsedB b) {m : Int} (hm : 100 ≤ m ∧ m ≤ 999) (f : Int) (x : List UInt8) (t w : Int) : UsedB (addMail b m f x t w).1 := by
  unfold addMail
  split
  · refine ⟨h.name, fun g k => ?_⟩
    rcases k with k | k | ⟨y, hy, k⟩
    · exact h.kn g (.inl k)
    · exact h.kn g (.inr (.inl k))
    · rcases List.mem_append.1 hy with q | q
      · exact h.kn g (.inr (.inr ⟨y, q, k⟩))
      · simp only [List.mem_singleton] at q
        subst q; rw [← k]; exact hm
  · exact h
theorem usedB_flag {b : Box} (h : UsedB b) (m n t w : Int) : UsedB (flagMail b m n t w).1 := by
  unfold flagMail
  split
  · exact h
  · rename_i k hk
    split
    · exact h
    · rename_i y hy
      split
      · refine ⟨h.name, fun g k => ?_⟩
        rcases k with k | k | ⟨z, hz, k⟩
        · exact h.kn g (.inl k)
        · exact h.kn g (.inr (.inl k))
        · rcases List.mem_or_eq_of_mem_set hz with q | q
          · exact h.kn g (.inr (.inr ⟨z, q, k⟩))
          · subst q; exact h.kn g (.inr (.inr ⟨y, List.mem_of_getElem? hy, k⟩))
      · exact h
theorem usedB_take {b : Box} (h : UsedB b) (m : Int) : UsedB (takeOut b m).1 := by
  unfold takeOut
  cases q : mailO b.mails m with
  | none => exact h
  | some k =>
    obtain ⟨h1, h2, _⟩ := mailO_some q
    simp only
    split
    · refine ⟨h.name, fun g z => ?_⟩
      rcases z with z | z | ⟨y, hy, z⟩
      · exact h.kn g (.inl z)
      · rcases gput_mem.1 z with e | e
        · exact h.kn g (.inr (.inr ⟨_, List.getElem_mem h1, by rw [e]; exact h2⟩))
        · exact h.kn g (.inr (.inl e))
      · exact h.kn g (.inr (.inr ⟨y, (sub_take_drop b.mails k).subset hy, z⟩))
    · exact h
theorem used_put {n : Nat} {s : Store} (h : Used n s) (g : Int) {m : Int} (hm : 100 ≤ m ∧ m ≤ 999) (f : Int) (x : List UInt8) : Used (n + 1) (putMail s g m f x).1 := by
  unfold putMail
  split
  · refine used_at h _ _ fun i hi _ => ?_
    split
    · exact used_stamped h _ (usedB_add (h.box _ (List.getElem_mem hi)) hm _ _ _ _)
    · exact h.mono (by omega)
  · exact h.mono (by omega)
theorem used_mark {n : Nat} {s : Store} (h : Used n s) (g m f : Int) : Used (n + 1) (markMail s g m f).1 := by
  unfold markMail
  rw [if_pos h.ok]
  refine used_at h _ _ fun i hi _ => ?_
  split
  · exact used_stamped h _ (usedB_flag (h.box _ (List.getElem_mem hi)) _ _ _ _)
  · exact h.mono (by omega)
theorem used_drop {n : Nat} {s : Store} (h : Used n s) (g m : Int) : Used (n + 1) (dropMail s g m).1 := by
  have hok := dropMail_ok h.ok g m
  unfold dropMail at hok ⊢
  rw [if_pos h.ok] at hok ⊢
  cases c : boxO s.boxes g with
  | none => rw [at_none c]; exact h.mono (by omega)
  | some i =>
    obtain ⟨hi, hb⟩ := boxO_some c
    rw [at_some c hi] at hok ⊢
    split
    · rename_i z
      rw [if_pos z] at hok
      refine ⟨hok, by have := h.time; simp only; omega, by have := h.gone; simp only; omega, fun x hx => ?_, h.kn⟩
      rcases List.mem_or_eq_of_mem_set hx with q | q
      · exact h.box x q
      · rw [q]; exact usedB_take (h.box _ (List.getElem_mem hi)) m
    · exact h.mono (by omega)
theorem used_name {n : Nat} {s : Store} (h : Used n s) (g : Int) {nm : List UInt8} (hn : nm ∈ names5) : Used (n + 1) (renameBox s g nm).1 := by
  unfold renameBox
  split
  · exact used_at h _ _ fun i hi _ => used_stamped h _ ⟨hn, fun g k => (h.box _ (List.getElem_mem hi)).kn g k⟩
  · exact h.mono (by omega)
theorem used_make {n : Nat} {s : Store} (h : Used n s) {g : Int} (hg : 100 ≤ g ∧ g ≤ 999) {nm : List UInt8} (hn : nm ∈ names5) : Used (n + 1) (makeBox s g nm).1 := by
  have hok := makeBox_ok h.ok g nm
  unfold makeBox at hok ⊢
  split
  · rename_i c
    rw [if_pos c] at hok
    split
    · rename_i z
      rw [if_pos z] at hok
      refine ⟨hok, by have := h.time; simp only [makeTo]; omega, by have := h.gone; simp only [makeTo]; omega, fun x hx => ?_, h.kn⟩
      simp only [makeTo, List.mem_append, List.mem_filter, List.mem_singleton] at hx
      rcases hx with (q | q) | q
      · exact h.box x q.1
      · rw [q]
        refine ⟨hn, fun g k => ?_⟩
        rcases k with k | k | ⟨m, hm, k⟩
        · rw [← k]; exact hg
        · simp [newBox] at k
        · simp [newBox] at hm
      · exact h.box x q.1
    · exact h.mono (by omega)
  · exact h.mono (by omega)
theorem used_lose {n : Nat} {s : Store} (h : Used n s) {g : Int} (hg : 100 ≤ g ∧ g ≤ 999) : Used (n + 1) (dropBox s g).1 := by
  have hok := dropBox_ok h.ok (g := g) ⟨by omega, by omega⟩
  unfold dropBox at hok ⊢
  split
  · rename_i c
    rw [if_pos c] at hok
    cases q : boxO s.boxes g with
    | none => rw [at_none q]; exact h.mono (by omega)
    | some i =>
      obtain ⟨hi, hbi⟩ := boxO_some q
      rw [at_some q hi] at hok ⊢
      have := gput_le s.gone g
      refine ⟨hok, by have := h.time; simp only; omega, by have := h.gone; simp only; omega, fun x hx => h.box x ((sub_take_drop s.boxes i).subset hx), fun x hx => ?_⟩
      rcases gput_mem.1 hx with e | e
      · rw [e]; exact hg
      · exact h.kn x e
  · exact h.mono (by omega)
theorem ok_store {s : Store} (h : storeOk s = true) : StoreT s := by
  have G := storeOk_iff.1 h
  have H := storeOk_good h
  exact ⟨⟨by have := G.len; omega, by have := G.goneL; omega, fun b hb => (H.boxes.good b hb).inB, by have := good_gids h; omega⟩, by have := G.time; omega, by have := G.time; omega⟩
/-- a right store; of one that is used from its beginning more is said -/
structure UsedW (p : Bool) (n : Nat) (s : Store) : Prop where
  ok : storeOk s = true
  use : p = true → Used n s
theorem UsedW.mono {p : Bool} {n m : Nat} {s : Store} (h : UsedW p n s) (hm : n ≤ m) : UsedW p m s := ⟨h.ok, fun e => (h.use e).mono hm⟩
theorem usedW_new {w : Int} (h1 : 1 ≤ w) (h2 : w ≤ 2) (p : Bool) : UsedW p 0 ⟨w, 0, [], []⟩ := ⟨(used_new h1 h2).ok, fun _ => used_new h1 h2⟩
theorem UsedW.box {p : Bool} {n : Nat} {s : Store} (h : UsedW p n s) {b : Box} (hb : b ∈ s.boxes) : (1 ≤ b.gid ∧ b.gid ≤ 9999) ∧ (p = true → 100 ≤ b.gid ∧ b.gid ≤ 999) :=
  ⟨((storeOk_iff.1 h.ok).box b hb).1.gid, fun e => ((h.use e).box b hb).kn _ (.inl rfl)⟩
end Mx

namespace Mx
open Go
variable {M : Nat → Option Body}
structure UzK (M : Nat → Option Body) : Prop where
  below : spec_l01Below.k M
  text : spec_l05Text.k M
  once : spec_l01Once.k M
  pick : spec_l01Pick.k M
  make : spec_MakeBox.k M
  put : spec_PutMail.k M
  mark : spec_MarkMail.k M
  drop : spec_DropMail.k M
  name : spec_RenameBox.k M
  lose : spec_DropBox.k M
/-- what is done: one of the seven -/
theorem uz_done (K : UzK M) (c : UzC) (hR : Bytes c.R) (k : Nat) (p : Bool) (m : Nat) (st : Store) (hs : UsedW p m st) (i ic : Nat) (q : Int) (hic : ic ≤ c.R.length) (hb1 : 100 ≤ c.base) (hb2 : c.base + i ≤ 999) (w : Bool) (v1 v2 : Nat) (box gid : Int) (x : Nat)
    (hbox : box = 0 ∨ (1 ≤ box ∧ box ≤ 9999) ∧ (p = true → 100 ≤ box ∧ box ≤ 999)) :
    ∃ (e : Bool) (st' : Store) (w' : Bool) (ic' : Nat) (q' : Int), UsedW p (m + 1) st' ∧ ic' ≤ c.R.length ∧ (box = 0 ∨ w = true → w' = true) ∧
      ∀ n, ∃ y, exC (run M) k spec_l07Use.br (uzS c ⟨i, st, w, v1, v2, ic, q, n⟩ (uyE box gid x)) = some (.normal, uzR c i st' w' ic' q' (uwE e box) y) := by
  have hg : 100 ≤ (c.base : Int) + (i : Int) ∧ (c.base : Int) + (i : Int) ≤ 999 := ⟨by omega, by omega⟩
  have n3 : ∀ s ∈ nm3, s ∈ names5 ∧ s.length ≤ 12 := by decide
  have n4 : ∀ s ∈ nm4, s ∈ names5 ∧ s.length ≤ 12 := by decide
  by_cases c0 : box = 0 ∨ x = 0
  · obtain ⟨nm, ic1, q1, hnm, hc1, h1⟩ := spec_l01Pick.says K.pick hR ic q hic nm3 (by decide) (by decide)
    have h3 := spec_MakeBox.says K.make st (ok_store hs.ok) ((c.base : Int) + (i : Int)) nm (by have := (n3 nm hnm).2; omega)
    refine ⟨false, _, true, ic1, q1, ⟨makeBox_ok hs.ok _ _, fun z => used_make (hs.use z) hg (n3 nm hnm).1⟩, hc1, fun _ => rfl, fun n => ?_⟩
    obtain ⟨v1', v2', n', h⟩ := uz_make c k ⟨i, st, w, v1, v2, ic, q, n⟩ box gid x ic1 _ q1 _ _ (by omega) (by omega) (by simp only; omega) h1 h3
    exact ⟨(v1', v2', n'), h⟩
  have d0 : ¬ box = 0 := fun e => c0 (.inl e)
  have d1 : ¬ (x : Int) = 0 := fun e => c0 (.inr (by omega))
  by_cases c6 : x < 6
  · obtain ⟨f, ic1, q1, hf, hc1, h1⟩ := spec_l01Below.says K.below hR ic q hic 8 (by omega) (by omega)
    simp only [Int.cast_ofNat_Int] at h1
    obtain ⟨tx, ic2, q2, htx, hc2, h2⟩ := spec_l05Text.says K.text hR ic1 q1 hc1
    have h3 := spec_PutMail.says K.put st (ok_store hs.ok) box ((c.base : Int) + (i : Int)) f tx
    refine ⟨false, _, true, ic2, q2, ⟨putMail_ok hs.ok _ _ _ _, fun z => used_put (hs.use z) box hg f tx⟩, hc2, fun _ => rfl, fun n => ?_⟩
    obtain ⟨v1', v2', n', h⟩ := uz_put c k ⟨i, st, w, v1, v2, ic, q, n⟩ box gid x f ic1 ic2 _ q1 q2 _ _ d0 d1 (by omega) (by omega) (by simp only; omega) h1 h2 h3
    exact ⟨(v1', v2', n'), h⟩
  by_cases c9 : x < 9
  · obtain ⟨f, ic1, q1, hf, hc1, h1⟩ := spec_l01Below.says K.below hR ic q hic 8 (by omega) (by omega)
    simp only [Int.cast_ofNat_Int] at h1
    have h3 := spec_MarkMail.says K.mark st (ok_store hs.ok) box gid f
    refine ⟨false, _, true, ic1, q1, ⟨markMail_ok hs.ok _ _ _, fun z => used_mark (hs.use z) box gid f⟩, hc1, fun _ => rfl, fun n => ?_⟩
    obtain ⟨v1', v2', n', h⟩ := uz_mark c k ⟨i, st, w, v1, v2, ic, q, n⟩ box gid x f ic1 q1 _ _ d0 d1 (by omega) (by omega) h1 h3
    exact ⟨(v1', v2', n'), h⟩
  by_cases c10 : x = 9
  · have h3 := spec_DropMail.says K.drop st (ok_store hs.ok) box gid
    refine ⟨false, _, true, ic, q, ⟨dropMail_ok hs.ok _ _, fun z => used_drop (hs.use z) box gid⟩, hic, fun _ => rfl, fun n => ?_⟩
    obtain ⟨v1', v2', n', h⟩ := uz_drop c k ⟨i, st, w, v1, v2, ic, q, n⟩ box gid x _ _ d0 (by omega) h3
    exact ⟨(v1', v2', n'), h⟩
  by_cases c11 : x = 10
  · obtain ⟨nm, ic1, q1, hnm, hc1, h1⟩ := spec_l01Pick.says K.pick hR ic q hic nm4 (by decide) (by decide)
    have h3 := spec_RenameBox.says K.name st (ok_store hs.ok) box nm (by have := (n4 nm hnm).2; omega)
    refine ⟨false, _, true, ic1, q1, ⟨renameBox_ok hs.ok _ _, fun z => used_name (hs.use z) box (n4 nm hnm).1⟩, hc1, fun _ => rfl, fun n => ?_⟩
    obtain ⟨v1', v2', n', h⟩ := uz_name c k ⟨i, st, w, v1, v2, ic, q, n⟩ box gid x ic1 _ q1 _ _ d0 (by omega) h1 h3
    exact ⟨(v1', v2', n'), h⟩
  obtain ⟨z, ic1, q1, hc1, h1⟩ := spec_l01Once.says K.once hR ic q hic 3 (by omega) (by omega)
  simp only [Int.cast_ofNat_Int] at h1
  cases z
  · refine ⟨true, st, w, ic1, q1, hs.mono (by omega), hc1, fun h => h.resolve_left d0, fun n => ?_⟩
    obtain ⟨n', h⟩ := uz_stay c k ⟨i, st, w, v1, v2, ic, q, n⟩ box gid x ic1 q1 d0 (by omega) h1
    exact ⟨(v1, v2, n'), h⟩
  · have h3 := spec_DropBox.says K.lose st (ok_store hs.ok) box
    refine ⟨false, _, true, ic1, q1, ⟨dropBox_ok hs.ok (hbox.resolve_left d0).1, fun z => used_lose (hs.use z) ((hbox.resolve_left d0).2 z)⟩, hc1, fun _ => rfl, fun n => ?_⟩
    obtain ⟨v1', v2', n', h⟩ := uz_lose c k ⟨i, st, w, v1, v2, ic, q, n⟩ box gid x ic1 q1 _ _ d0 (by omega) h1 h3
    exact ⟨(v1', v2', n'), h⟩
structure UzI (c : UzC) (p : Bool) (m : Nat) (s0 : Store) (s : UzS) : Prop where
  i : s.i ≤ c.N
  use : UsedW p (m + s.i) s.s
  ic : s.ic ≤ c.R.length
  w : s0.boxes ≠ [] ∨ (s.i = 0 ∧ s.s = s0) ∨ s.w = true
theorem uz_round (K : UzK M) (c : UzC) (hR : Bytes c.R) (k : Nat) (p : Bool) (m : Nat) (s0 : Store) (hb1 : 100 ≤ c.base) (hb2 : c.base + c.N ≤ 1000) (s : UzS) (hs : UzI c p m s0 s) (hi : s.i < c.N) :
    ∃ s', exC (run M) k spec_l07Use.l0 (uzS c s []) = some (.normal, uzS c s' []) ∧ UzI c p m s0 s' ∧ s'.i = s.i + 1 := by
  have fin : ∀ (box : Int) (e : Bool) (st' : Store) (w' : Bool) (ic' : Nat) (q' : Int), UsedW p (m + s.i + 1) st' → ic' ≤ c.R.length → (s0.boxes ≠ [] ∨ w' = true) →
      (∀ n, ∃ y, exC (run M) k spec_l07Use.hd (uzS c { s with n := n } uxE) = some (.normal, uzR c s.i st' w' ic' q' (uwE e box) y)) →
      ∃ s', exC (run M) k spec_l07Use.l0 (uzS c s []) = some (.normal, uzS c s' []) ∧ UzI c p m s0 s' ∧ s'.i = s.i + 1 := by
    intro box e st' w' ic' q' hu hc hw hX
    obtain ⟨y, hy⟩ := uz_l0 c k s st' w' ic' q' e box hi (by omega) hX
    exact ⟨⟨s.i + 1, st', w', y.1, y.2.1, ic', q', y.2.2⟩, hy, ⟨by simp only; omega, hu, hc, hw.imp_right .inr⟩, rfl⟩
  by_cases hbx : s.s.boxes = []
  · obtain ⟨x, ic1, q1, hx, hc1, h1⟩ := spec_l01Below.says K.below hR s.ic s.q hs.ic 12 (by omega) (by omega)
    simp only [Int.cast_ofNat_Int] at h1
    obtain ⟨e, st', w', ic', q', hu, hc', hw, hd⟩ := uz_done K c hR k p (m + s.i) s.s hs.use s.i ic1 q1 hc1 hb1 (by omega) s.w s.v1 s.v2 0 0 x (.inl rfl)
    obtain ⟨Y, hY⟩ := Classical.skolem.1 hd
    exact fin 0 e st' w' ic' q' hu hc' (.inr (hw (.inl rfl))) fun n => by
      obtain ⟨n1, h⟩ := uz_hd0 c k { s with n := n } x ic1 q1 hbx h1 _ hY
      exact ⟨_, h⟩
  have hne : s0.boxes ≠ [] ∨ s.w = true := by
    rcases hs.w with h | ⟨_, h⟩ | h
    · exact .inl h
    · left; rw [← h]; exact hbx
    · exact .inr h
  have hl : 0 < s.s.boxes.length := List.length_pos_iff.2 hbx
  have G := storeOk_iff.1 hs.use.ok
  obtain ⟨j, ic0, q0, hj, hc0, h0⟩ := spec_l01Below.says K.below hR s.ic s.q hs.ic s.s.boxes.length hl (by have := G.len; omega)
  have hbox := hs.use.box (List.getElem_mem hj)
  by_cases hml : s.s.boxes[j].mails = []
  · obtain ⟨x, ic1, q1, hx, hc1, h1⟩ := spec_l01Below.says K.below hR ic0 q0 hc0 12 (by omega) (by omega)
    simp only [Int.cast_ofNat_Int] at h1
    obtain ⟨e, st', w', ic', q', hu, hc', hw, hd⟩ := uz_done K c hR k p (m + s.i) s.s hs.use s.i ic1 q1 hc1 hb1 (by omega) s.w s.v1 s.v2 s.s.boxes[j].gid 0 x (.inr hbox)
    obtain ⟨Y, hY⟩ := Classical.skolem.1 hd
    exact fin _ e st' w' ic' q' hu hc' (hne.imp_right fun h => hw (.inr h)) fun n => by
      obtain ⟨n1, h⟩ := uz_hd1 c k { s with n := n } x j ic0 ic1 q0 q1 hj hml h0 h1 _ hY
      exact ⟨_, h⟩
  · have hl2 : 0 < s.s.boxes[j].mails.length := List.length_pos_iff.2 hml
    have GB := (G.box _ (List.getElem_mem hj)).1
    obtain ⟨l, ic2, q2, hl, hc2, h2⟩ := spec_l01Below.says K.below hR ic0 q0 hc0 s.s.boxes[j].mails.length hl2 (by have := GB.len; omega)
    obtain ⟨x, ic1, q1, hx, hc1, h1⟩ := spec_l01Below.says K.below hR ic2 q2 hc2 12 (by omega) (by omega)
    simp only [Int.cast_ofNat_Int] at h1
    obtain ⟨e, st', w', ic', q', hu, hc', hw, hd⟩ := uz_done K c hR k p (m + s.i) s.s hs.use s.i ic1 q1 hc1 hb1 (by omega) s.w s.v1 s.v2 s.s.boxes[j].gid (s.s.boxes[j].mails[l]).gid x (.inr hbox)
    obtain ⟨Y, hY⟩ := Classical.skolem.1 hd
    exact fin _ e st' w' ic' q' hu hc' (hne.imp_right fun h => hw (.inr h)) fun n => by
      obtain ⟨n1, h⟩ := uz_hd2 c k { s with n := n } x j l ic0 ic1 ic2 q0 q1 q2 hj hl h0 h2 h1 _ hY
      exact ⟨_, h⟩
theorem uz_loop (K : UzK M) (c : UzC) (hR : Bytes c.R) (k : Nat) (p : Bool) (m : Nat) (s0 : Store) (hb1 : 100 ≤ c.base) (hb2 : c.base + c.N ≤ 1000) (s : UzS) (hs : UzI c p m s0 s) (hk : c.N < k) :
    ∃ s', loopN (exC (run M) k spec_l07Use.l0) k (uzS c s []) = some (.exit 0, uzS c s' [(16, .c (.bool false))]) ∧ UzI c p m s0 s' ∧ s'.i = c.N := by
  obtain ⟨r, hr, s', rfl, hI⟩ := loop_ex (f := exC (run M) k spec_l07Use.l0) (fun s => uzS c s []) (UzI c p m s0) (fun s => c.N - s.i) (fun r => ∃ s', r = (.exit 0, uzS c s' [(16, .c (.bool false))]) ∧ UzI c p m s0 s' ∧ s'.i = c.N)
    (fun s hs => by
      by_cases hi : s.i < c.N
      · left
        obtain ⟨s', h1, h2, h3⟩ := uz_round K c hR k p m s0 hb1 hb2 s hs hi
        exact ⟨s', h1, h2, by omega⟩
      · right
        obtain ⟨n', h⟩ := uz_end (M := M) c k s hi
        have := hs.i
        exact ⟨_, h, by simp, _, rfl, ⟨hs.i, hs.use, hs.ic, hs.w⟩, by simp only; omega⟩) k s hs (by omega)
  exact ⟨s', hr, hI⟩
abbrev encStoreW (w : Bool) (s : Store) : List T := [I s.who, I s.time, .sl w 7 (s.boxes.map encBox), .sl w 1 (irow s.gone)]
set_option maxHeartbeats 1000000 in
theorem spec_l07Use.says (h : spec_l07Use.k M) {R : List (List T)} (hR : Bytes R) (i : Nat) (q : Int) (hi : i ≤ R.length) (p : Bool) (m : Nat) (s : Store) (hs : UsedW p m s) (N base : Nat) (h1 : 100 ≤ base) (h2 : base + N ≤ 1000) :
    ∃ (s' : Store) (w : Bool) (i' : Nat) (q' : Int), UsedW p (m + N) s' ∧ (s.boxes = [] → 0 < N → w = true) ∧ i' ≤ R.length ∧
      run M 244 [.c (.ptr 0 0 0 0), .a (encStore s), .c (I N), .c (I base)] [curD R i q] = some (.a (encStoreW w s'), [curD R i' q']) := by
  obtain ⟨h0, kb, kt, ko, kp, km, kpu, kma, kdm, kn, kdb⟩ := h
  obtain ⟨⟨i', s', w, v1, v2, ic, q', n⟩, hr, hI, hi'⟩ := uz_loop ⟨kb, kt, ko, kp, km, kpu, kma, kdm, kn, kdb⟩ ⟨R, 2000000, 2000016, N, base⟩ hR (N + 1) p m s h1 h2 ⟨0, s, false, 0, 0, i, q, 2000048⟩ ⟨Nat.zero_le _, hs, hi, .inr (.inl ⟨rfl, rfl⟩)⟩ (by simp)
  obtain ⟨_, hu, hc, hw⟩ := hI
  simp only at hi' hu hc hw
  subst hi'
  refine ⟨s', w, ic, q', hu, fun e hN => ?_, hc, run_code (b := spec_l07Use.m) h0 ⟨i' + 1, ?_⟩⟩
  · rcases hw with h | ⟨h, _⟩ | h
    · exact (h e).elim
    · omega
    · exact h
  have e0 : ((0 : Nat) : Int) = 0 := rfl
  have e7 : (s'.boxes.map encBox).length = s'.boxes.length := by simp
  have e8 := irow_length s'.gone
  have m1 : (s'.boxes.map encBox).take s'.boxes.length = s'.boxes.map encBox := List.take_of_length_le (by omega)
  have m2 : (irow s'.gone).take s'.gone.length = irow s'.gone := List.take_of_length_le (by omega)
  simp only [uzS, uzT, uzO, uzB, uzX, e0] at hr
  simp only [encStore, encStoreW, boxes, ints] at hr ⊢
  generalize s'.boxes.map encBox = rb' at *
  generalize irow s'.gone = rg' at *
  generalize s.boxes.map encBox = rb at *
  generalize irow s.gone = rg at *
  cases w
  · simp only [Bool.false_eq_true, if_false] at hr
    simp (maxSteps := 1000000) [exB, spec_l07Use.m, spec_l07Use.b, List.range_succ, bs_get, setAt, hr, e7, e8, m1, m2]
  · simp only [Bool.false_eq_true, if_false, if_true] at hr
    simp (maxSteps := 1000000) [exB, spec_l07Use.m, spec_l07Use.b, List.range_succ, bs_get, setAt, hr, e7, e8, m1, m2]
end Mx

namespace Mx
open Go
variable {M : Nat → Option Body}
theorem spec_StoreNew.says (h : spec_StoreNew.k M) (w : Int) : run M 113 [.c (I w)] [] = some (.a [I w, I 0, .sl true 7 [], .sl true 1 []], []) := by
  refine run_code (b := spec_StoreNew.m) h ⟨0, ?_⟩
  simp (maxSteps := 1000000) [exB, spec_StoreNew.m, spec_StoreNew.b, List.range_succ, bs_get, setAt]
end Mx

namespace Mx
open Go
variable {M : Nat → Option Body}
def stepD (s : List Mail × List Int) (m : Mail) : List Mail × List Int := if m.gid ∈ s.2 then s else (s.1 ++ [m], s.2 ++ [m.gid])
theorem stepD_fold (s0 : List Int) : ∀ (ms : List Mail) (l : List Mail) (s : List Int), (gids ms).Nodup → (∀ m ∈ ms, m.gid ∈ s ↔ m.gid ∈ s0) → (∀ g, g ∈ s0 → g ∈ s) →
    (ms.foldl stepD (l, s)).1 = l ++ ms.filter (fun m => !decide (m.gid ∈ s0)) ∧ ∀ g, g ∈ (ms.foldl stepD (l, s)).2 ↔ g ∈ s ∨ g ∈ gids ms
  | [], l, s, _, _, _ => by simp [gids]
  | m :: ms, l, s, hn, h1, h2 => by
    have hn' : m.gid ∉ gids ms ∧ (gids ms).Nodup := by
      have := List.nodup_cons.1 (show (m.gid :: gids ms).Nodup from hn)
      exact this
    rw [List.foldl_cons, List.filter_cons]
    have hm := h1 m (List.mem_cons_self ..)
    by_cases c : m.gid ∈ s
    · have c0 := hm.1 c
      have e : stepD (l, s) m = (l, s) := by unfold stepD; rw [if_pos c]
      rw [e]
      obtain ⟨q1, q2⟩ := stepD_fold s0 ms l s hn'.2 (fun x hx => h1 x (List.mem_cons_of_mem _ hx)) h2
      refine ⟨by rw [q1]; simp [c0], fun g => ?_⟩
      rw [q2]
      simp only [gids, List.map_cons, List.mem_cons]
      constructor
      · rintro (q | q)
        · exact .inl q
        · exact .inr (.inr q)
      · rintro (q | q | q)
        · exact .inl q
        · rw [q]; exact .inl c
        · exact .inr q
    · have c0 : ¬ m.gid ∈ s0 := fun q => c (hm.2 q)
      have e : stepD (l, s) m = (l ++ [m], s ++ [m.gid]) := by unfold stepD; rw [if_neg c]
      rw [e]
      obtain ⟨q1, q2⟩ := stepD_fold s0 ms (l ++ [m]) (s ++ [m.gid]) hn'.2 (fun x hx => by
        rw [List.mem_append, List.mem_singleton]
        have hne : x.gid ≠ m.gid := fun e => hn'.1 (by rw [← e]; exact List.mem_map_of_mem hx)
        have := h1 x (List.mem_cons_of_mem _ hx)
        constructor
        · rintro (q | q)
          · exact this.1 q
          · exact (hne q).elim
        · exact fun q => .inl (this.2 q)) (fun g hg => List.mem_append_left _ (h2 g hg))
      refine ⟨by rw [q1]; simp [c0], fun g => ?_⟩
      rw [q2]
      simp only [gids, List.map_cons, List.mem_cons, List.mem_append, List.not_mem_nil, or_false, or_assoc]
theorem stepD_len (s : List Mail × List Int) (m : Mail) : (stepD s m).1.length ≤ s.1.length + 1 ∧ (stepD s m).2.length ≤ s.2.length + 1 := by
  unfold stepD
  split
  · omega
  · simp
def sz5 (c : JzC) : List T := [I c.who, I c.time, .row 13500 c.w 0 c.L.length, .row 11900 c.z 0 c.gone.length]
def sz1S (c : JzC) (i : Nat) (j : Nat) (s : List Mail × List Int) (y : Nat × Nat × Nat) : St := { t := [(4, .c (.ptr 4 c.u4 0 0)), (5, .c (.ptr 5 c.u6 0 0)), (6, .c (.row 37 y.1 0 s.2.length)), (7, .c (I i)), (8, .c (.row 45 y.2.1 0 s.1.length)), (9, .c (I j))], o := [(4, ⟨c.u4, 4, true, true, [szero]⟩), (5, ⟨c.u6, 4, true, true, [sz5 c]⟩), (37, ⟨y.1, 1, true, false, irow s.2⟩), (45, ⟨y.2.1, 4, true, false, s.1.map encMail⟩), (11900, ⟨c.z, 1, false, false, irow c.gone⟩), (13500, ⟨c.w, 7, true, false, (dedTo c.L i).map encBox⟩)], n := y.2.2 }
def sz1E (c : JzC) (i : Nat) (x : Box) (s : List Mail × List Int) (y : Nat × Nat × Nat) : St := { t := [(4, .c (.ptr 4 c.u4 0 0)), (5, .c (.ptr 5 c.u6 0 0)), (6, .c (.row 37 y.1 0 s.2.length)), (7, .c (I i)), (8, .c (.row 45 y.2.1 0 s.1.length)), (9, .c (I x.mails.length)), (54, .c (.bool false))], o := [(4, ⟨c.u4, 4, true, true, [szero]⟩), (5, ⟨c.u6, 4, true, true, [sz5 c]⟩), (37, ⟨y.1, 1, true, false, irow s.2⟩), (45, ⟨y.2.1, 4, true, false, s.1.map encMail⟩), (11900, ⟨c.z, 1, false, false, irow c.gone⟩), (13500, ⟨c.w, 7, true, false, (dedTo c.L i).map encBox⟩)], n := y.2.2 }
set_option maxHeartbeats 2000000 in
theorem sz1_loop (kc : spec_l06In.k M) (k : Nat) (c : JzC) (i : Nat) (hi : i < c.L.length) (s0 : List Int) (hs0 : s0.length ≤ 4194304) (hx : c.L[i].mails.length ≤ 1048576) (hk : c.L[i].mails.length < k) (y : Nat × Nat × Nat) :
    ∃ z, loopN (exC (run M) k spec_JoinStore.l1) k (sz1S c i 0 ([], s0) y) = some (.exit 2, sz1E c i c.L[i] (c.L[i].mails.foldl stepD ([], s0)) z) := by
  have el : ((dedTo c.L i).map encBox).length = c.L.length := by simp [dedTo_len]
  have a0 : ∀ hh, ((dedTo c.L i).map encBox)[i]'hh = encBox c.L[i] := by
    intro hh; simp only [List.getElem_map, dedTo_at c.L i hi]
  obtain ⟨x, hxx⟩ : ∃ x, x = c.L[i] := ⟨_, rfl⟩
  rw [← hxx] at a0 hx hk ⊢
  have er : (x.mails.map encMail).length = x.mails.length := by simp
  obtain ⟨g, hr⟩ := fold_loop (f := exC (run M) k spec_JoinStore.l1) x.mails stepD (fun i s => s.1.length ≤ i ∧ s.2.length ≤ 4194304 + i) (sz1S c i) 2 (sz1E c i x)
    (fun i h s hs => by have := stepD_len s x.mails[i]; omega)
    (fun j hj s y hs => by
      obtain ⟨v, v4, n⟩ := y
      obtain ⟨l, sn⟩ := s
      simp only at hs
      have e5 := wrap1 (i := j) (by omega)
      have e6 : l.length + 1 ≤ 4294967296 := by omega
      have e7 : sn.length + 1 ≤ 4294967296 := by omega
      have e9 : (l.map encMail).length = l.length := by simp
      have e10 := irow_length sn
      have h1 := spec_l06In.says kc sn x.mails[j].gid (by omega)
      have a1 : ∀ hh, (x.mails.map encMail)[j]'hh = encMail x.mails[j] := by intro hh; simp
      simp only [Prod.exists]
      unfold stepD
      by_cases q : x.mails[j].gid ∈ sn
      · rw [decide_eq_true q] at h1
        simp only [q, if_true, sz1S, sz5]
        simp only [encBox, mails, ints, encMail, regs] at a0 a1 h1 ⊢
        generalize x.mails.map encMail = rx at *
        generalize irow x.gone = rxg at *
        generalize irow sn = rs at *
        generalize (dedTo c.L i).map encBox = rd at *
        generalize l.map encMail = rl at *
        generalize x.mails[j].flags.map encReg = rf at *
        simp (maxSteps := 1000000) [spec_JoinStore.l1, List.range_succ, bs_get, setAt, hi, hj, h1, e5, e10, er, el, a0, a1, List.take_of_length_le]
      · rw [decide_eq_false q] at h1
        simp only [q, if_false, sz1S, sz5, irow_snoc, List.map_append, List.map_cons, List.map_nil, List.length_append, List.length_singleton]
        simp only [encBox, mails, ints, encMail, regs] at a0 a1 h1 ⊢
        generalize x.mails.map encMail = rx at *
        generalize irow x.gone = rxg at *
        generalize irow sn = rs at *
        generalize (dedTo c.L i).map encBox = rd at *
        generalize l.map encMail = rl at *
        generalize x.mails[j].flags.map encReg = rf at *
        simp (maxSteps := 1000000) [spec_JoinStore.l1, List.range_succ, bs_get, setAt, hi, hj, h1, e5, e6, e7, e9, e10, er, el, a0, a1, List.take_of_length_le])
    (fun s y hs => by
      obtain ⟨v, v4, n⟩ := y
      obtain ⟨l, sn⟩ := s
      simp only [Prod.exists, sz1S, sz1E, sz5]
      simp only [encBox, mails, ints] at a0 ⊢
      generalize x.mails.map encMail = rx at *
      generalize irow x.gone = rxg at *
      generalize irow sn = rs at *
      generalize (dedTo c.L i).map encBox = rd at *
      generalize l.map encMail = rl at *
      simp (maxSteps := 1000000) [spec_JoinStore.l1, List.range_succ, bs_get, setAt, hi, er, el, a0]) ([], s0) ⟨by simp, by simp only; omega⟩
  exact ⟨_, loopN_le (hr y) (by omega)⟩
end Mx

namespace Mx
open Go
variable {M : Nat → Option Body}
structure SzS where
  i : Nat
  seen : List Int
  v : Nat
  n : Nat
def sz0S (c : JzC) (s : SzS) : St := { t := [(4, .c (.ptr 4 c.u4 0 0)), (5, .c (.ptr 5 c.u6 0 0)), (6, .c (.row 37 s.v 0 s.seen.length)), (7, .c (I s.i))], o := [(4, ⟨c.u4, 4, true, true, [szero]⟩), (5, ⟨c.u6, 4, true, true, [sz5 c]⟩), (37, ⟨s.v, 1, true, false, irow s.seen⟩), (11900, ⟨c.z, 1, false, false, irow c.gone⟩), (13500, ⟨c.w, 7, true, false, (dedTo c.L s.i).map encBox⟩)], n := s.n }
def sz0E (c : JzC) (s : SzS) : St := { t := [(4, .c (.ptr 4 c.u4 0 0)), (5, .c (.ptr 5 c.u6 0 0)), (6, .c (.row 37 s.v 0 s.seen.length)), (7, .c (I s.i)), (42, .c (.bool false))], o := [(4, ⟨c.u4, 4, true, true, [szero]⟩), (5, ⟨c.u6, 4, true, true, [sz5 c]⟩), (37, ⟨s.v, 1, true, false, irow s.seen⟩), (11900, ⟨c.z, 1, false, false, irow c.gone⟩), (13500, ⟨c.w, 7, true, false, (dedTo c.L s.i).map encBox⟩)], n := s.n }
structure SzI (c : JzC) (s : SzS) : Prop where
  i : s.i ≤ c.L.length
  mem : ∀ g, g ∈ s.seen ↔ g ∈ seenI c.L s.i
  len : s.seen.length ≤ 100 * s.i
set_option maxHeartbeats 2000000 in
theorem sz0_turn (kc : spec_l06In.k M) (k : Nat) (hk : 200 ≤ k) (c : JzC) (hL : c.L.length ≤ 1000) (hb : ∀ b ∈ c.L, b.mails.length ≤ 100 ∧ (gids b.mails).Nodup) (s : SzS) (hI : SzI c s) (hs : s.i < c.L.length) :
    ∃ s', exC (run M) k spec_JoinStore.l0 (sz0S c s) = some (.normal, sz0S c s') ∧ SzI c s' ∧ s'.i = s.i + 1 := by
  obtain ⟨i, sn, v, n⟩ := s
  obtain ⟨_, hm, hl⟩ := hI
  simp only at hs hm hl
  obtain ⟨hx, hnd⟩ := hb _ (List.getElem_mem hs)
  obtain ⟨⟨v5, v4, n4⟩, r1⟩ := sz1_loop kc k c i hs sn (by omega) (by omega) (by omega) (v, n + 80, n + 128)
  obtain ⟨f1, f2⟩ := stepD_fold sn c.L[i].mails [] sn hnd (fun _ _ => Iff.rfl) (fun _ h => h)
  rw [List.nil_append] at f1
  have f3 : (c.L[i].mails.foldl stepD ([], sn)).1.length ≤ c.L[i].mails.length ∧ (c.L[i].mails.foldl stepD ([], sn)).2.length ≤ sn.length + c.L[i].mails.length := by
    have key : ∀ ms : List Mail, (ms.foldl stepD ([], sn)).1.length ≤ ms.length ∧ (ms.foldl stepD ([], sn)).2.length ≤ sn.length + ms.length := fun ms =>
      foldl_inv ms stepD (fun j s => s.1.length ≤ j ∧ s.2.length ≤ sn.length + j) (fun j h s hs => by have := stepD_len s ms[j]; omega) ([], sn) ⟨by simp, by simp⟩
    exact key _
  have hded : dedOne c.L i c.L[i] = { c.L[i] with mails := (c.L[i].mails.foldl stepD ([], sn)).1 } := by
    unfold dedOne
    rw [f1]
    congr 1
    apply List.filter_congr
    intro m _
    congr 1
    exact decide_eq_decide.2 (hm m.gid).symm
  have t3 : (dedTo c.L (i + 1)).map encBox = ((dedTo c.L i).map encBox).set i (encBox (dedOne c.L i c.L[i])) := by rw [dedTo_succ c.L i hs, List.map_set]
  rw [hded] at t3
  have e5 := wrap1 (i := i) (by omega)
  have ez : ((0 : Nat) : Int) = 0 := rfl
  have el : ((dedTo c.L i).map encBox).length = c.L.length := by simp [dedTo_len]
  have a1 : ∀ hh, ((dedTo c.L i).map encBox)[i]'hh = encBox c.L[i] := by
    intro hh; simp only [List.getElem_map, dedTo_at c.L i hs]
  have hh : ∃ n', exC (run M) k spec_JoinStore.l0 (sz0S c ⟨i, sn, v, n⟩) = some (.normal, sz0S c ⟨i + 1, (c.L[i].mails.foldl stepD ([], sn)).2, v5, n'⟩) := by
    simp only [sz1S, sz1E, ez, List.map_nil, List.length_nil] at r1
    simp only [sz0S, t3]
    clear t3 hded f1 f2 hm
    have efl : ((c.L[i].mails.foldl stepD ([], sn)).1.map encMail).length = (c.L[i].mails.foldl stepD ([], sn)).1.length := by simp
    generalize c.L[i].mails.foldl stepD ([], sn) = F at *
    obtain ⟨fl, fs⟩ := F
    simp only [encBox, mails, ints, sz5] at r1 a1 efl ⊢
    generalize fl.map encMail = rl at *
    generalize irow fs = rfs at *
    generalize irow sn = rs at *
    generalize (dedTo c.L i).map encBox = rd at *
    generalize c.L[i] = x at *
    generalize c.L.length = N at *
    generalize x.mails.map encMail = rx at *
    generalize irow x.gone = rg at *
    generalize irow c.gone = rcg at *
    simp (maxSteps := 1000000) [spec_JoinStore.l0, List.range_succ, bs_get, setAt, hs, r1, e5, el, a1, efl, List.take_of_length_le]
  obtain ⟨n', hh⟩ := hh
  refine ⟨_, hh, ⟨hs, fun g => ?_, ?_⟩, rfl⟩
  · simp only
    rw [f2, seenI_succ c.L i hs, List.mem_append, hm]
  · simp only; omega
theorem sz0_end (k : Nat) (c : JzC) (s : SzS) (hs : ¬ s.i < c.L.length) :
    ∃ n', exC (run M) k spec_JoinStore.l0 (sz0S c s) = some (.exit 0, sz0E c { s with n := n' }) := by
  obtain ⟨i, sn, v, n⟩ := s
  simp only at hs
  simp only [sz0S, sz0E, sz5]
  generalize (dedTo c.L i).map encBox = rd at *
  simp (maxSteps := 1000000) [spec_JoinStore.l0, List.range_succ, bs_get, setAt, hs]
end Mx

namespace Mx
open Go
variable {M : Nat → Option Body}
theorem boxIn_none {l : List Box} {g : Int} : boxIn l g = none ↔ ∀ m ∈ l, m.gid ≠ g := by
  unfold boxIn; rw [List.find?_eq_none]; simp
theorem boxIn_mem {l : List Box} (h : (l.map (·.gid)).Nodup) {m : Box} (hm : m ∈ l) : boxIn l m.gid = some m := by
  induction l with
  | nil => simp at hm
  | cons x l ih =>
    rw [List.map_cons, List.nodup_cons] at h
    unfold boxIn at ih ⊢
    rw [List.find?_cons]
    rcases List.mem_cons.1 hm with rfl | hm
    · simp
    · have : x.gid ≠ m.gid := fun e => h.1 (by rw [e]; exact List.mem_map_of_mem hm)
      simp only [this, decide_false]
      exact ih h.2 hm
theorem joinB_gid {a b : List Box} {g : Int} (h : g ∈ gidsB a ∨ g ∈ gidsB b) : (joinB a b g).gid = g := by
  unfold joinB
  cases h1 : boxIn a g with
  | some x =>
    cases h2 : boxIn b g with
    | some y => simp only [joinBox_gid]; exact (boxIn_some h1).2
    | none => exact (boxIn_some h1).2
  | none =>
    cases h2 : boxIn b g with
    | some y => exact (boxIn_some h2).2
    | none =>
      exfalso
      rw [boxIn_none] at h1 h2
      rcases h with h | h
      · obtain ⟨m, hm, e⟩ := List.mem_map.1 h; exact h1 m hm e
      · obtain ⟨m, hm, e⟩ := List.mem_map.1 h; exact h2 m hm e
theorem allB_iff {a b : List Box} (ha : (gidsB a).Nodup) (hb : (gidsB b).Nodup) {m : Box} : m ∈ allB a b ↔ (m.gid ∈ gidsB a ∨ m.gid ∈ gidsB b) ∧ m = joinB a b m.gid := by
  simp only [allB, firstB, List.mem_append, List.mem_map, List.mem_filter]
  constructor
  · rintro (⟨x, hx, rfl⟩ | ⟨hm, hn⟩)
    · have h1 := boxIn_mem ha hx
      have hg : x.gid ∈ gidsB a := List.mem_map_of_mem hx
      cases h2 : boxIn b x.gid with
      | some y =>
        simp only [joinBox_gid]
        refine ⟨.inl hg, ?_⟩
        simp only [joinB, h1, h2]
      | none =>
        simp only
        refine ⟨.inl hg, ?_⟩
        simp only [joinB, h1, h2]
    · have h1 := boxIn_mem hb hm
      simp only [Option.isNone_iff_eq_none] at hn
      refine ⟨.inr (List.mem_map_of_mem hm), ?_⟩
      simp only [joinB, h1, hn]
  · rintro ⟨h, e⟩
    cases h1 : boxIn a m.gid with
    | some x =>
      left
      obtain ⟨k1, k2⟩ := boxIn_some h1
      refine ⟨x, k1, ?_⟩
      rw [e, k2]
      simp only [joinB, h1]
      cases h2 : boxIn b m.gid <;> rfl
    | none =>
      right
      cases h2 : boxIn b m.gid with
      | none =>
        exfalso
        rw [boxIn_none] at h1 h2
        rcases h with h | h
        · obtain ⟨m', hm, e⟩ := List.mem_map.1 h; exact h1 m' hm e
        · obtain ⟨m', hm, e⟩ := List.mem_map.1 h; exact h2 m' hm e
      | some y =>
        refine ⟨?_, by simp⟩
        have : m = y := by rw [e]; simp only [joinB, h1, h2]
        rw [this]; exact (boxIn_some h2).1
theorem allB_nodup {a b : List Box} (ha : (gidsB a).Nodup) (hb : (gidsB b).Nodup) : (gidsB (allB a b)).Nodup := by
  have e1 : gidsB (firstB a b) = gidsB a := by
    unfold gidsB firstB; rw [List.map_map]
    apply List.map_congr_left
    intro m _
    simp only [Function.comp]
    split
    · exact joinBox_gid _ _
    · rfl
  unfold allB
  rw [gidsB, List.map_append]
  change (gidsB _ ++ gidsB _).Nodup
  rw [e1, List.nodup_append]
  refine ⟨ha, ?_, ?_⟩
  · exact hb.sublist (List.Sublist.map _ List.filter_sublist)
  · intro x hx y hy e
    subst e
    obtain ⟨m, hm, rfl⟩ := List.mem_map.1 hy
    rw [List.mem_filter] at hm
    simp only [Option.isNone_iff_eq_none, boxIn_none] at hm
    obtain ⟨m', hm', e⟩ := List.mem_map.1 hx
    exact hm.2 m' hm' e
theorem srtB_eq {a b : List Box} (G : List Int) (ha : (gidsB a).Nodup) (hb : (gidsB b).Nodup) :
    sortBy (·.gid) ((allB a b).filter fun m => !decide (m.gid ∈ G)) = ((joinGone (gidsB a) (gidsB b)).filter fun g => !decide (g ∈ G)).map (joinB a b) := by
  refine ascBy_ext (k := fun m : Box => m.gid) ?_ ?_ fun m => ?_
  · refine asc_of_sorted (sortBy_sorted _) ?_
    have hp := (sortBy_perm (k := fun m : Box => m.gid) ((allB a b).filter fun m => !decide (m.gid ∈ G))).map (fun m : Box => m.gid)
    rw [hp.nodup_iff]
    exact (allB_nodup ha hb).sublist (List.Sublist.map _ List.filter_sublist)
  · rw [AscBy, List.pairwise_map]
    have h := (joinGone_asc (gidsB a) (gidsB b)).filter (fun g => !decide (g ∈ G))
    refine List.Pairwise.imp_of_mem ?_ h
    intro x y hx hy hxy
    rw [List.mem_filter, joinGone_mem] at hx hy
    rw [joinB_gid hx.1, joinB_gid hy.1]
    exact hxy
  · rw [sortBy_mem, List.mem_filter, allB_iff ha hb, List.mem_map]
    constructor
    · rintro ⟨⟨h1, h2⟩, h3⟩
      exact ⟨m.gid, List.mem_filter.2 ⟨(joinGone_mem _ _ _).2 h1, h3⟩, h2.symm⟩
    · rintro ⟨g, hg, rfl⟩
      rw [List.mem_filter, joinGone_mem] at hg
      have := joinB_gid hg.1
      rw [this]
      exact ⟨⟨hg.1, rfl⟩, hg.2⟩
end Mx

namespace Mx
open Go
variable {M : Nat → Option Body}
theorem joinBoxes_eq {a b : Store} (ha : StoreGood a) (hb : StoreGood b) (G : List Int) : joinBoxesI a.boxes b.boxes G = joinBoxesS a.boxes b.boxes G := by
  have nd : ∀ {s : Store}, StoreGood s → (gidsB s.boxes).Nodup := fun {s} h => List.pairwise_map.2 (h.asc.imp fun q => by omega)
  unfold joinBoxesI joinBoxesS
  rw [srtB_eq G (nd ha) (nd hb)]
theorem sz0_loop (kc : spec_l06In.k M) (k : Nat) (hk : 1200 ≤ k) (c : JzC) (hL : c.L.length ≤ 1000) (hb : ∀ b ∈ c.L, b.mails.length ≤ 100 ∧ (gids b.mails).Nodup) (v n : Nat) :
    ∃ s', loopN (exC (run M) k spec_JoinStore.l0) k (sz0S c ⟨0, [], v, n⟩) = some (.exit 0, sz0E c s') ∧ s'.i = c.L.length := by
  obtain ⟨r, hr, s', rfl, hi⟩ := loop_ex (f := exC (run M) k spec_JoinStore.l0) (sz0S c) (SzI c) (fun s => c.L.length - s.i) (fun r => ∃ s', r = (.exit 0, sz0E c s') ∧ s'.i = c.L.length)
    (fun s hs => by
      by_cases q : s.i < c.L.length
      · left
        obtain ⟨s', hh, hI, hi⟩ := sz0_turn kc k (by omega) c hL hb s hs q
        exact ⟨_, hh, hI, by omega⟩
      · right
        obtain ⟨n', hh⟩ := sz0_end (M := M) k c s q
        have := hs.i
        exact ⟨_, hh, by simp, _, rfl, by simp only; omega⟩) k ⟨0, [], v, n⟩ ⟨by simp, fun g => by simp [seenI], by simp⟩ (by simp only; omega)
  exact ⟨s', hr, hi⟩
set_option maxHeartbeats 4000000 in
theorem spec_JoinStore.says (h : spec_JoinStore.k M) (a b : Store) (ha : StoreGood a) (hb : StoreGood b) :
    run M 446 [.a (encStore a), .a (encStore b)] [] = some (.a [I a.who, I (Max.max a.time b.time), .sl true 7 ((joinStoreI a b).boxes.map encBox), .sl false 1 (irow (joinStoreI a b).gone)], []) := by
  obtain ⟨h0, kg, kin, kb⟩ := h
  have hga := ha.gone
  have hgb := hb.gone
  have hgj := joinGone_le a.gone b.gone
  have h1 := spec_JoinGone.says kg a.gone b.gone (by omega) (by omega)
  have h2 := spec_JoinBoxes.says kb a.boxes b.boxes (joinGone a.gone b.gone) ha.boxes hb.boxes (by omega)
  rw [← joinBoxes_eq ha hb] at h2
  have hLl := joinBoxesI_len ha.boxes hb.boxes (joinGone a.gone b.gone)
  have hLs := joinBoxesI_small ha.boxes hb.boxes (joinGone a.gone b.gone)
  simp only [joinStoreI]
  have eg := irow_length (joinGone a.gone b.gone)
  generalize joinGone a.gone b.gone = G at *
  generalize joinBoxesI a.boxes b.boxes G = L at *
  have hLb : ∀ x ∈ L, x.mails.length ≤ 100 ∧ (gids x.mails).Nodup := fun x hx => ⟨by have := (hLs x hx).m; omega, (hLs x hx).d⟩
  obtain ⟨⟨i1, sn1, v1, n1⟩, r1, hi1⟩ := sz0_loop kin 1200 (by omega) ⟨2000032, 2000208, 2000480, 2000176, a.who, b.time, G, L⟩ (by simp only; omega) hLb 2000528 2000576
  obtain ⟨⟨i2, sn2, v2, n2⟩, r2, hi2⟩ := sz0_loop kin 1200 (by omega) ⟨2000032, 2000208, 2000416, 2000176, a.who, a.time, G, L⟩ (by simp only; omega) hLb 2000464 2000512
  simp only at hi1 hi2
  subst hi1
  subst hi2
  refine run_code (b := spec_JoinStore.m) h0 ⟨1200, ?_⟩
  have el : (L.map encBox).length = L.length := by simp
  have el2 : ((ded L).map encBox).length = L.length := by simp [ded]
  have ez : ((0 : Nat) : Int) = 0 := rfl
  have em := max_int a.time b.time
  simp only [sz0S, sz0E, sz5, dedTo_zero, dedTo_all, ez, irow_nil, List.length_nil] at r1 r2
  generalize hmx : Max.max a.time b.time = mx at *
  clear hmx hLs hLb
  generalize (ded L).map encBox = RD at *
  generalize L.map encBox = RL at *
  generalize L.length = N at *
  simp only [encStore, boxes, ints] at *
  generalize irow G = rg at *
  generalize G.length = ng at *
  generalize a.boxes.map encBox = ra at *
  generalize b.boxes.map encBox = rb at *
  generalize irow a.gone = ga at *
  generalize irow b.gone = gb at *
  by_cases c : a.time < b.time
  · rw [if_pos c] at em
    subst em
    simp (maxSteps := 1000000) [exB, spec_JoinStore.m, spec_JoinStore.b, List.range_succ, bs_get, setAt, h1, h2, r1, c, el, el2, eg, List.take_of_length_le]
  · rw [if_neg c] at em
    subst em
    simp (maxSteps := 1000000) [exB, spec_JoinStore.m, spec_JoinStore.b, List.range_succ, bs_get, setAt, h1, h2, r2, c, el, el2, eg, List.take_of_length_le]
def fitsStore (a b : Store) : Bool := storeOk a && storeOk b && storeOk (joinStoreI a b)
theorem joinStoreI_in {a b : Store} (ha : StoreGood a) (hb : StoreGood b) : StoreIn (joinStoreI a b) := by
  have h1 := joinGone_le a.gone b.gone
  have h2 := ha.gone
  have h3 := hb.gone
  have h4 := joinBoxesI_len ha.boxes hb.boxes (joinGone a.gone b.gone)
  refine ⟨by simp only [joinStoreI, ded, List.length_mapIdx]; omega, by simp only [joinStoreI]; omega, ded_in _ (joinBoxesI_small ha.boxes hb.boxes (joinGone a.gone b.gone)), ?_⟩
  have hs := ded_in (joinBoxesI a.boxes b.boxes (joinGone a.gone b.gone)) (joinBoxesI_small ha.boxes hb.boxes (joinGone a.gone b.gone))
  have key : ∀ l : List Box, (∀ x ∈ l, x.mails.length ≤ 20) → (l.flatMap gidsOf).length ≤ 20 * l.length := by
    intro l
    induction l with
    | nil => intro _; simp
    | cons x l ih =>
      intro h
      have h1 := ih fun y hy => h y (List.mem_cons_of_mem _ hy)
      have h2 := h x (List.mem_cons_self ..)
      simp only [List.flatMap_cons, List.length_append, gidsOf, List.length_map, List.length_cons] at h1 ⊢
      omega
  have hk := key (joinStoreI a b).boxes fun x hx => by
    obtain ⟨i, hi, rfl⟩ := List.getElem_of_mem hx
    simp only [joinStoreI, ded, List.length_mapIdx] at hi
    simp only [joinStoreI, ded, List.getElem_mapIdx, dedOne]
    have S := joinBoxesI_small ha.boxes hb.boxes (joinGone a.gone b.gone) _ (List.getElem_mem hi)
    exact Nat.le_trans (List.length_filter_le _ _) S.m
  have hl : (joinStoreI a b).boxes.length ≤ 10 := by simp only [joinStoreI, ded, List.length_mapIdx]; exact h4
  omega
set_option maxHeartbeats 1000000 in
theorem impl_FitsStore.says (h : impl_FitsStore.k M) (a b : Store) (ha : StoreIn a) (hb : StoreIn b) : run M 433 [.a (encStore a), .a (encStore b)] [] = some (.c (.bool (fitsStore a b)), []) := by
  obtain ⟨h0, ks, kj⟩ := h
  have h1 := impl_StoreOk.says ks a ha
  have h2 := impl_StoreOk.says ks b hb
  refine run_code (b := impl_FitsStore.m) h0 ⟨0, ?_⟩
  unfold fitsStore
  cases c1 : storeOk a with
  | false =>
    rw [c1] at h1
    simp only [encStore, boxes, ints] at *
    generalize a.boxes.map encBox = ra at *
    generalize b.boxes.map encBox = rb at *
    generalize irow a.gone = ga at *
    generalize irow b.gone = gb at *
    simp (maxSteps := 1000000) [exB, impl_FitsStore.m, impl_FitsStore.b, List.range_succ, bs_get, setAt, h1, List.take_of_length_le]
  | true =>
    rw [c1] at h1
    cases c2 : storeOk b with
    | false =>
      rw [c2] at h2
      simp only [encStore, boxes, ints] at *
      generalize a.boxes.map encBox = ra at *
      generalize b.boxes.map encBox = rb at *
      generalize irow a.gone = ga at *
      generalize irow b.gone = gb at *
      simp (maxSteps := 1000000) [exB, impl_FitsStore.m, impl_FitsStore.b, List.range_succ, bs_get, setAt, h1, h2, List.take_of_length_le]
    | true =>
      rw [c2] at h2
      have h3 := impl_JoinStore.says kj a b (storeOk_good c1) (storeOk_good c2)
      have h4 := impl_StoreOk.says ks _ (joinStoreI_in (storeOk_good c1) (storeOk_good c2))
      have e1 : (joinStoreI a b).who = a.who := rfl
      have e2 : (joinStoreI a b).time = Max.max a.time b.time := rfl
      simp only [encStore, boxes, ints, e1, e2] at *
      generalize Max.max a.time b.time = mx at *
      generalize storeOk (joinStoreI a b) = w at *
      generalize (joinStoreI a b).boxes.map encBox = rj at *
      generalize irow (joinStoreI a b).gone = gj at *
      generalize a.boxes.map encBox = ra at *
      generalize b.boxes.map encBox = rb at *
      generalize irow a.gone = ga at *
      generalize irow b.gone = gb at *
      simp (maxSteps := 1000000) [exB, impl_FitsStore.m, impl_FitsStore.b, List.range_succ, bs_get, setAt, h1, h2, h3, h4, List.take_of_length_le]
set_option maxHeartbeats 1000000 in
theorem spec_FitsStore.says (h : spec_FitsStore.k M) (a b : Store) (ha : StoreIn a) (hb : StoreIn b) : run M 432 [.a (encStore a), .a (encStore b)] [] = some (.c (.bool (fitsStore a b)), []) := by
  obtain ⟨h0, ks, kj⟩ := h
  have h1 := spec_StoreOk.says ks a ha
  have h2 := spec_StoreOk.says ks b hb
  refine run_code (b := spec_FitsStore.m) h0 ⟨0, ?_⟩
  unfold fitsStore
  cases c1 : storeOk a with
  | false =>
    rw [c1] at h1
    simp only [encStore, boxes, ints] at *
    generalize a.boxes.map encBox = ra at *
    generalize b.boxes.map encBox = rb at *
    generalize irow a.gone = ga at *
    generalize irow b.gone = gb at *
    simp (maxSteps := 1000000) [exB, spec_FitsStore.m, spec_FitsStore.b, List.range_succ, bs_get, setAt, h1, List.take_of_length_le]
  | true =>
    rw [c1] at h1
    cases c2 : storeOk b with
    | false =>
      rw [c2] at h2
      simp only [encStore, boxes, ints] at *
      generalize a.boxes.map encBox = ra at *
      generalize b.boxes.map encBox = rb at *
      generalize irow a.gone = ga at *
      generalize irow b.gone = gb at *
      simp (maxSteps := 1000000) [exB, spec_FitsStore.m, spec_FitsStore.b, List.range_succ, bs_get, setAt, h1, h2, List.take_of_length_le]
    | true =>
      rw [c2] at h2
      have h3 := spec_JoinStore.says kj a b (storeOk_good c1) (storeOk_good c2)
      have h4 := spec_StoreOk.says ks _ (joinStoreI_in (storeOk_good c1) (storeOk_good c2))
      have e1 : (joinStoreI a b).who = a.who := rfl
      have e2 : (joinStoreI a b).time = Max.max a.time b.time := rfl
      simp only [encStore, boxes, ints, e1, e2] at *
      generalize Max.max a.time b.time = mx at *
      generalize storeOk (joinStoreI a b) = w at *
      generalize (joinStoreI a b).boxes.map encBox = rj at *
      generalize irow (joinStoreI a b).gone = gj at *
      generalize a.boxes.map encBox = ra at *
      generalize b.boxes.map encBox = rb at *
      generalize irow a.gone = ga at *
      generalize irow b.gone = gb at *
      simp (maxSteps := 1000000) [exB, spec_FitsStore.m, spec_FitsStore.b, List.range_succ, bs_get, setAt, h1, h2, h3, h4, List.take_of_length_le]
end Mx

namespace Mx
open Go
theorem ascB {s : Store} (h : StoreGood s) : Asc (gidsB s.boxes) := List.pairwise_map.2 h.asc
theorem ndB {s : Store} (h : StoreGood s) : (gidsB s.boxes).Nodup := (ascB h).imp fun q => by omega
theorem joinB_comm (a b : List Box) (g : Int) : joinB a b g = joinB b a g := by
  unfold joinB
  cases h1 : boxIn a g with
  | none => cases h2 : boxIn b g <;> rfl
  | some x =>
    cases h2 : boxIn b g with
    | none => rfl
    | some y => exact joinBox_comm ((boxIn_some h1).2.trans (boxIn_some h2).2.symm)
theorem joinBoxesS_comm (a b : List Box) (G : List Int) : joinBoxesS a b G = joinBoxesS b a G := by
  unfold joinBoxesS
  rw [joinGone_comm, funext (joinB_comm a b)]
theorem joinStore_comm {a b : Store} (ha : StoreGood a) (hb : StoreGood b) : joinStoreI b a = { joinStoreI a b with who := b.who } := by
  simp only [joinStoreI, Store.mk.injEq, true_and]
  refine ⟨Int.max_comm _ _, ?_, joinGone_comm _ _⟩
  rw [joinBoxes_eq ha hb, joinBoxes_eq hb ha, joinBoxesS_comm, joinGone_comm]
theorem ok_who {s : Store} (h : storeOk s = true) {w : Int} (hw : 1 ≤ w ∧ w ≤ 2) : storeOk { s with who := w } = true := by
  have G := storeOk_iff.1 h
  exact storeOk_iff.2 ⟨hw, G.time, G.len, G.gone, G.goneR, G.goneL, G.box, G.asc, G.names, G.mails⟩
theorem ok_who2 (J : Store) {v w : Int} (hv : J.who = v) (h1 : 1 ≤ v ∧ v ≤ 2) (h2 : 1 ≤ w ∧ w ≤ 2) : storeOk J = storeOk { J with who := w } := by
  obtain ⟨who, time, bs, gs⟩ := J
  simp only at hv
  subst hv
  rw [Bool.eq_iff_iff]
  exact ⟨fun h => ok_who h h2, fun h => ok_who h h1⟩
theorem fits_comm (a b : Store) : fitsStore a b = fitsStore b a := by
  unfold fitsStore
  cases c1 : storeOk a with
  | false => simp only [Bool.false_and, Bool.and_false]
  | true =>
    cases c2 : storeOk b with
    | false => simp only [Bool.false_and, Bool.and_false]
    | true =>
      simp only [Bool.true_and]
      have ha := storeOk_good c1
      have hb := storeOk_good c2
      have G1 := storeOk_iff.1 c1
      have G2 := storeOk_iff.1 c2
      rw [joinStore_comm ha hb]
      have hw : (joinStoreI a b).who = a.who := rfl
      generalize joinStoreI a b = J at *
      exact ok_who2 J hw G1.who G2.who
theorem ren_id : ∀ (l acc : List Box), (acc ++ l).Pairwise (fun x y => x.name ≠ y.name) → l.foldl renStep acc = acc ++ l
  | [], acc, _ => by simp
  | x :: l, acc, h => by
    have h1 : ¬ (acc.any fun y => decide (y.name = x.name)) = true := by
      rw [List.any_eq_true]
      rintro ⟨y, hy, e⟩
      exact (List.pairwise_append.1 h).2.2 y hy x (List.mem_cons_self ..) (by simpa using e)
    have h2 : renStep acc x = acc ++ [x] := by unfold renStep; rw [if_neg h1]
    rw [List.foldl_cons, h2, ren_id l (acc ++ [x]) (by simpa using h)]
    simp
theorem ded_id {L : List Box} (h : (L.flatMap gidsOf).Nodup) : ded L = L := by
  unfold ded
  apply List.ext_getElem
  · simp
  · intro i h1 h2
    simp only [List.getElem_mapIdx, dedOne]
    have : L[i].mails.filter (fun m => !decide (m.gid ∈ seenI L i)) = L[i].mails := by
      rw [List.filter_eq_self]
      intro m hm
      have e : L = L.take i ++ L[i] :: L.drop (i + 1) := by rw [← List.drop_eq_getElem_cons h2, List.take_append_drop]
      rw [e, List.flatMap_append, List.nodup_append] at h
      have := h.2.2
      simp only [Bool.not_eq_true', decide_eq_false_iff_not]
      intro c
      exact this m.gid c m.gid (by rw [List.flatMap_cons]; exact List.mem_append_left _ (List.mem_map_of_mem hm)) rfl
    rw [this]
theorem joinStore_self {j : Store} (h : storeOk j = true) (w : Int) : joinStoreI j { j with who := w } = j := by
  have G := storeOk_iff.1 h
  have H := storeOk_good h
  have H' : StoreGood { j with who := w } := ⟨H.boxes, H.gone, H.asc⟩
  have hb : joinBoxesI j.boxes j.boxes j.gone = j.boxes := by
    rw [joinBoxes_eq H H]
    unfold joinBoxesS
    rw [joinGone_self (ascB H)]
    have hf : (gidsB j.boxes).filter (fun g => !decide (g ∈ j.gone)) = gidsB j.boxes := by
      rw [List.filter_eq_self]
      intro g hg
      obtain ⟨b, hb, rfl⟩ := List.mem_map.1 hg
      simpa using (G.box b hb).2.1
    rw [hf]
    have hm : (gidsB j.boxes).map (joinB j.boxes j.boxes) = j.boxes := by
      unfold gidsB
      rw [List.map_map]
      refine (List.map_congr_left (g := id) fun b hb => ?_).trans (List.map_id _)
      have h1 := boxIn_mem (ndB H) hb
      have h2 := (G.box b hb).1
      simp only [Function.comp, joinB, h1, id]
      exact joinBox_self h2.nd h2.uids (fun m hm => (h2.mail m hm).2.2) h2.gone
    rw [hm]
    exact (ren_id j.boxes [] (by simpa using G.names)).trans (List.nil_append _)
  have hg : joinGone j.gone j.gone = j.gone := joinGone_self G.gone
  simp only [joinStoreI, hg, hb, ded_id G.mails, Int.max_self]
/-- a new store and another: the other, by the new one's name -/
theorem joinStore_new {a : Store} (h : storeOk a = true) (w : Int) : joinStoreI ⟨w, 0, [], []⟩ a = { a with who := w } := by
  have G := storeOk_iff.1 h
  have H := storeOk_good h
  have H0 : StoreGood ⟨w, 0, [], []⟩ := ⟨⟨by simp, by simp⟩, by simp, List.Pairwise.nil⟩
  have hg : joinGone [] a.gone = a.gone := asc_ext (joinGone_asc _ _) G.gone fun z => by rw [joinGone_mem]; simp
  have hgb : joinGone (gidsB []) (gidsB a.boxes) = gidsB a.boxes := asc_ext (joinGone_asc _ _) (ascB H) fun z => by rw [joinGone_mem]; simp [gidsB]
  have hb : joinBoxesI [] a.boxes a.gone = a.boxes := by
    rw [joinBoxes_eq (a := ⟨w, 0, [], []⟩) H0 H]
    unfold joinBoxesS
    rw [hgb]
    have hf : (gidsB a.boxes).filter (fun g => !decide (g ∈ a.gone)) = gidsB a.boxes := by
      rw [List.filter_eq_self]
      intro g hg
      obtain ⟨b, hb, rfl⟩ := List.mem_map.1 hg
      simpa using (G.box b hb).2.1
    rw [hf]
    have hm : (gidsB a.boxes).map (joinB [] a.boxes) = a.boxes := by
      unfold gidsB
      rw [List.map_map]
      refine (List.map_congr_left (g := id) fun b hb => ?_).trans (List.map_id _)
      have h1 := boxIn_mem (ndB H) hb
      have h0 : boxIn [] b.gid = none := rfl
      simp only [Function.comp, joinB, h1, h0, id]
    rw [hm]
    exact (ren_id a.boxes [] (by simpa using G.names)).trans (List.nil_append _)
  have ht : Max.max (0 : Int) a.time = a.time := Int.max_eq_right G.time.1
  simp only [joinStoreI, hg, hb, ded_id G.mails, ht]
/-- the mails' Gids of a box of a list -/
def mb (l : List Box) (g : Int) : List Int := match boxIn l g with | some x => gids x.mails | none => []
def gb (l : List Box) (g : Int) : List Int := match boxIn l g with | some x => x.gone | none => []
/-- the boxes that two lists come to, ahead of names and of mails that are there twice -/
def raw (a b : List Box) (G : List Int) : List Box := ((joinGone (gidsB a) (gidsB b)).filter fun g => !decide (g ∈ G)).map (joinB a b)
theorem ren_fold_at : ∀ (l acc : List Box) (i : Nat) (h : i < l.length), ∃ nm, (l.foldl renStep acc)[acc.length + i]? = some { l[i] with name := nm }
  | x :: l, acc, i, h => by
    rw [List.foldl_cons]
    have hs : renStep acc x = acc ++ [renOne acc x] := rfl
    cases i with
    | zero =>
      have hp : ∀ (l acc : List Box) (k : Nat), k < acc.length → (l.foldl renStep acc)[k]? = acc[k]? := by
        intro l
        induction l with
        | nil => intro acc k _; rfl
        | cons y l ih =>
          intro acc k hk
          rw [List.foldl_cons, ih (renStep acc y) k (by rw [renStep_eq]; simp; omega), renStep_eq, List.getElem?_append_left hk]
      rw [hp l _ _ (by rw [hs]; simp), hs]
      refine ⟨(renOne acc x).name, ?_⟩
      simp only [Nat.add_zero, List.getElem?_append_right (Nat.le_refl _), Nat.sub_self, List.getElem?_cons_zero, List.getElem_cons_zero]
      unfold renOne; split <;> rfl
    | succ i =>
      have := ren_fold_at l (renStep acc x) i (by simpa using h)
      rw [hs] at this
      simpa [hs, Nat.add_assoc, Nat.add_comm 1] using this
theorem ren_at (l : List Box) (i : Nat) (h : i < l.length) : ∃ nm, (ren l)[i]'(by rw [ren_len]; exact h) = { l[i] with name := nm } := by
  obtain ⟨nm, e⟩ := ren_fold_at l [] i h
  refine ⟨nm, ?_⟩
  simp only [List.length_nil, Nat.zero_add] at e
  have e2 : (ren l)[i]? = some { l[i] with name := nm } := e
  rw [List.getElem?_eq_getElem (by rw [ren_len]; exact h)] at e2
  exact Option.some.inj e2
theorem seenI_mem {L : List Box} {i : Nat} {m : Int} : m ∈ seenI L i ↔ ∃ k, ∃ h : k < L.length, k < i ∧ m ∈ gids L[k].mails := by
  unfold seenI
  rw [List.mem_flatMap]
  constructor
  · rintro ⟨b, hb, hm⟩
    obtain ⟨k, hk, rfl⟩ := List.getElem_of_mem hb
    simp only [List.length_take] at hk
    rw [List.getElem_take] at hm
    exact ⟨k, by omega, by omega, hm⟩
  · rintro ⟨k, hk, hki, hm⟩
    refine ⟨L[k], ?_, hm⟩
    have : k < (L.take i).length := by simp; omega
    have e : (L.take i)[k] = L[k] := by rw [List.getElem_take]
    rw [← e]; exact List.getElem_mem this
theorem ded_gids {L : List Box} {i : Nat} (h : i < L.length) {m : Int} : m ∈ gids ((ded L)[i]'(by simpa [ded] using h)).mails ↔ m ∈ gids L[i].mails ∧ ¬ m ∈ seenI L i := by
  simp only [ded, List.getElem_mapIdx, dedOne, gids, List.mem_map, List.mem_filter, Bool.not_eq_true', decide_eq_false_iff_not]
  constructor
  · rintro ⟨y, ⟨h1, h2⟩, rfl⟩; exact ⟨⟨y, h1, rfl⟩, h2⟩
  · rintro ⟨⟨y, h1, rfl⟩, h2⟩; exact ⟨y, ⟨h1, h2⟩, rfl⟩
/-- a joined store's boxes, one by one -/
structure Come (a b : List Box) (G : List Int) (L : List Box) : Prop where
  len : L.length = (raw a b G).length
  at_ : ∀ i (h : i < L.length), ∃ hr : i < (raw a b G).length, L[i].gid = (raw a b G)[i].gid ∧ L[i].gone = (raw a b G)[i].gone ∧
    ∀ m, m ∈ gids L[i].mails ↔ m ∈ gids (raw a b G)[i].mails ∧ ¬ m ∈ seenI (raw a b G) i
  nd : (∀ x ∈ raw a b G, (gids x.mails).Nodup) → ∀ i (h : i < L.length), (gids L[i].mails).Nodup
theorem come (a b : List Box) (G : List Int) : Come a b G (ded (joinBoxesS a b G)) := by
  have hl : (ded (joinBoxesS a b G)).length = (raw a b G).length := by simp only [ded, List.length_mapIdx]; exact ren_len _
  have hS : ∀ i (h : i < (raw a b G).length), ∃ nm, (joinBoxesS a b G)[i]'(by rw [show (joinBoxesS a b G).length = _ from ren_len _]; exact h) = { (raw a b G)[i] with name := nm } := fun i h => ren_at (raw a b G) i h
  have hlS : (joinBoxesS a b G).length = (raw a b G).length := ren_len _
  have hseen : ∀ i m, m ∈ seenI (joinBoxesS a b G) i ↔ m ∈ seenI (raw a b G) i := by
    intro i m
    rw [seenI_mem, seenI_mem]
    constructor
    · rintro ⟨k, h1, h2, h3⟩
      obtain ⟨nm, e⟩ := hS k (by omega)
      rw [e] at h3
      exact ⟨k, by omega, h2, h3⟩
    · rintro ⟨k, h1, h2, h3⟩
      obtain ⟨nm, e⟩ := hS k h1
      exact ⟨k, by omega, h2, by rw [e]; exact h3⟩
  refine ⟨hl, fun i h => ?_, fun hn i h => ?_⟩
  · have hr : i < (raw a b G).length := by omega
    obtain ⟨nm, e⟩ := hS i hr
    refine ⟨hr, ?_, ?_, fun m => ?_⟩
    · simp only [ded, List.getElem_mapIdx, dedOne, e]
    · simp only [ded, List.getElem_mapIdx, dedOne, e]
    · rw [ded_gids (by omega), hseen, e]
  · have hr : i < (raw a b G).length := by omega
    obtain ⟨nm, e⟩ := hS i hr
    have := hn _ (List.getElem_mem hr)
    simp only [ded, List.getElem_mapIdx, dedOne, e, gids] at this ⊢
    exact this.sublist (List.Sublist.map _ List.filter_sublist)
end Mx

namespace Mx
open Go
variable {M : Nat → Option Body}
/-- small enough to be held against another -/
structure BoxEq (b : Box) : Prop where
  m : b.mails.length ≤ 1048576
  g : b.gone.length ≤ 1048576
  f : ∀ m ∈ b.mails, m.flags.length ≤ 1048576
structure StoreEq (s : Store) : Prop where
  b : s.boxes.length ≤ 1048576
  g : s.gone.length ≤ 1048576
  box : ∀ b ∈ s.boxes, BoxEq b
def efS (a b : List Mail) (i : Nat) (x : Nat) : St := { t := [(1, .c (mails b)), (2, .c (.fn 212 [])), (15, .c (mails a)), (16, .c (I a.length)), (17, .c (I i))], o := [], n := x }
def efE (a b : List Mail) (x : Nat) : St := { t := [(1, .c (mails b)), (2, .c (.fn 212 [])), (15, .c (mails a)), (16, .c (I a.length)), (17, .c (I a.length)), (18, .c (.bool false))], o := [], n := x }
theorem slices_EqualFunc_mails (h : slices_EqualFunc_impl_Mail_impl_Mail_impl_Mail_impl_Mail.k M) (h2 : impl_SameMail.k M) (a b : List Mail) (ha : a.length ≤ 1048576) (hf : ∀ m ∈ a, m.flags.length ≤ 1048576) :
    run M 211 [.c (mails a), .c (mails b), .c (.fn 212 [])] [] = some (.c (.bool (decide (a = b))), []) := by
  refine run_code (b := slices_EqualFunc_impl_Mail_impl_Mail_impl_Mail_impl_Mail.m) h ⟨a.length + 1, ?_⟩
  by_cases c4 : a.length = b.length
  rotate_left
  · have hne : ¬ a = b := fun q => c4 (by rw [q])
    have c4' : ¬ (a.length : Int) = b.length := by omega
    simp [exB, slices_EqualFunc_impl_Mail_impl_Mail_impl_Mail_impl_Mail.m, slices_EqualFunc_impl_Mail_impl_Mail_impl_Mail_impl_Mail.b, List.range_succ, c4, c4', hne]
  obtain ⟨g, hr⟩ := eq_loop a b c4 (f := exC (run M) (a.length + 1) slices_EqualFunc_impl_Mail_impl_Mail_impl_Mail_impl_Mail.l0) (efS a b) 6 0 (efE a b)
    (fun i hi hi' x c => by
      have e5 := wrap1 (i := i) (by omega)
      have hm := impl_SameMail.says h2 a[i] b[i] (hf _ (List.getElem_mem hi))
      rw [decide_eq_true c] at hm
      simp only [encMail] at hm
      simp [efS, slices_EqualFunc_impl_Mail_impl_Mail_impl_Mail_impl_Mail.l0, hi, hi', e5, encMail, hm, setAt])
    (fun i hi hi' x c => by
      have hm := impl_SameMail.says h2 a[i] b[i] (hf _ (List.getElem_mem hi))
      rw [decide_eq_false c] at hm
      simp only [encMail] at hm
      simp [efS, slices_EqualFunc_impl_Mail_impl_Mail_impl_Mail_impl_Mail.l0, hi, hi', encMail, hm, setAt])
    (fun x => by simp [efS, efE, slices_EqualFunc_impl_Mail_impl_Mail_impl_Mail_impl_Mail.l0])
  by_cases c5 : a = b
  · subst c5
    simp [efS, efE] at hr
    simp [exB, slices_EqualFunc_impl_Mail_impl_Mail_impl_Mail_impl_Mail.m, slices_EqualFunc_impl_Mail_impl_Mail_impl_Mail_impl_Mail.b, List.range_succ, hr]
  · simp [efS, efE, c5] at hr
    simp only [c4] at hr
    simp [exB, slices_EqualFunc_impl_Mail_impl_Mail_impl_Mail_impl_Mail.m, slices_EqualFunc_impl_Mail_impl_Mail_impl_Mail_impl_Mail.b, List.range_succ, hr, c4, c5]
theorem impl_sameBox.says (h : impl_sameBox.k M) (a b : Box) (ha : BoxEq a) : run M 119 [.a (encBox a), .a (encBox b)] [] = some (.c (.bool (decide (a = b))), []) := by
  obtain ⟨h0, k1, k2, k3⟩ := h
  have h1 := slices_Equal_int_int.says k1 a.gone b.gone ha.g
  have h2 := slices_EqualFunc_mails k2 k3 a.mails b.mails ha.m ha.f
  refine run_code (b := impl_sameBox.m) h0 ⟨0, ?_⟩
  by_cases c1 : a.gid = b.gid
  rotate_left
  · have hne : ¬ a = b := fun q => c1 (by rw [q])
    simp [exB, impl_sameBox.m, impl_sameBox.b, List.range_succ, c1, hne]
  by_cases c2 : a.name = b.name
  rotate_left
  · have hne : ¬ a = b := fun q => c2 (by rw [q])
    simp [exB, impl_sameBox.m, impl_sameBox.b, List.range_succ, c1, c2, hne]
  by_cases c3 : a.time = b.time
  rotate_left
  · have hne : ¬ a = b := fun q => c3 (by rw [q])
    simp [exB, impl_sameBox.m, impl_sameBox.b, List.range_succ, c1, c2, c3, hne, eqL, eqT]
  by_cases c4 : a.who = b.who
  rotate_left
  · have hne : ¬ a = b := fun q => c4 (by rw [q])
    simp [exB, impl_sameBox.m, impl_sameBox.b, List.range_succ, c1, c2, c3, c4, hne, eqL, eqT]
  by_cases c5 : a.next = b.next
  rotate_left
  · have hne : ¬ a = b := fun q => c5 (by rw [q])
    simp [exB, impl_sameBox.m, impl_sameBox.b, List.range_succ, c1, c2, c3, c4, c5, hne, eqL, eqT]
  by_cases c6 : a.mails = b.mails
  rotate_left
  · have hne : ¬ a = b := fun q => c6 (by rw [q])
    simp only [c6, decide_false] at h2
    simp [exB, impl_sameBox.m, impl_sameBox.b, List.range_succ, c1, c2, c3, c4, c5, h2, hne, eqL, eqT]
  simp only [c6, decide_true] at h2
  by_cases c7 : a.gone = b.gone
  · have he : a = b := box_ext c1 c2 c3 c4 c5 c6 c7
    subst he
    simp at h1
    simp [exB, impl_sameBox.m, impl_sameBox.b, List.range_succ, h1, h2, eqL, eqT]
  · have hne : ¬ a = b := fun q => c7 (by rw [q])
    simp only [c7, decide_false] at h1
    simp [exB, impl_sameBox.m, impl_sameBox.b, List.range_succ, c1, c2, c3, c4, c5, c6, h1, h2, hne, eqL, eqT]
def sbS (a b : Box) (i : Nat) (x : Nat × Nat × Nat) : St := { t := [(2, .c (.ptr 2 x.1 0 0)), (3, .c (.ptr 3 x.2.1 0 0)), (5, .c (I i))], o := [(2, ⟨x.1, 7, true, true, [encBox a]⟩), (3, ⟨x.2.1, 7, true, true, [encBox b]⟩)], n := x.2.2 }
def sbE (a b : Box) (x : Nat × Nat × Nat) : St := { t := [(2, .c (.ptr 2 x.1 0 0)), (3, .c (.ptr 3 x.2.1 0 0)), (5, .c (I a.mails.length)), (55, .c (.bool false))], o := [(2, ⟨x.1, 7, true, true, [encBox a]⟩), (3, ⟨x.2.1, 7, true, true, [encBox b]⟩)], n := x.2.2 }
def sb2S (a b : Box) (i : Nat) (x : Nat × Nat × Nat) : St := { t := [(2, .c (.ptr 2 x.1 0 0)), (3, .c (.ptr 3 x.2.1 0 0)), (6, .c (I i))], o := [(2, ⟨x.1, 7, true, true, [encBox a]⟩), (3, ⟨x.2.1, 7, true, true, [encBox b]⟩)], n := x.2.2 }
def sb2E (a b : Box) (x : Nat × Nat × Nat) : St := { t := [(2, .c (.ptr 2 x.1 0 0)), (3, .c (.ptr 3 x.2.1 0 0)), (6, .c (I a.gone.length)), (74, .c (.bool false))], o := [(2, ⟨x.1, 7, true, true, [encBox a]⟩), (3, ⟨x.2.1, 7, true, true, [encBox b]⟩)], n := x.2.2 }
theorem loopN_more {f : St → Option (Out × St)} : ∀ {n m : Nat} {s : St} {r : Out × St}, loopN f n s = some r → n ≤ m → loopN f m s = some r
  | 0, m, s, r, h, _ => by simp [loopN] at h
  | n + 1, 0, s, r, h, hm => by omega
  | n + 1, m + 1, s, r, h, hm => by
    simp only [loopN] at h ⊢
    split at h
    · exact loopN_more h (by omega)
    · exact h
theorem spec_l09Box.says (h : spec_l09Box.k M) (a b : Box) (ha : BoxEq a) : run M 116 [.a (encBox a), .a (encBox b)] [] = some (.c (.bool (decide (a = b))), []) := by
  obtain ⟨h0, k1⟩ := h
  refine run_code (b := spec_l09Box.m) h0 ⟨a.mails.length + a.gone.length + 1, ?_⟩
  by_cases c1 : a.gid = b.gid
  rotate_left
  · have hne : ¬ a = b := fun q => c1 (by rw [q])
    simp [exB, spec_l09Box.m, spec_l09Box.b, List.range_succ, c1, hne]
  by_cases c2 : a.name = b.name
  rotate_left
  · have hne : ¬ a = b := fun q => c2 (by rw [q])
    simp [exB, spec_l09Box.m, spec_l09Box.b, List.range_succ, c1, c2, hne]
  by_cases c3 : a.time = b.time
  rotate_left
  · have hne : ¬ a = b := fun q => c3 (by rw [q])
    simp [exB, spec_l09Box.m, spec_l09Box.b, List.range_succ, c1, c2, c3, hne, eqL, eqT]
  by_cases c4 : a.who = b.who
  rotate_left
  · have hne : ¬ a = b := fun q => c4 (by rw [q])
    simp [exB, spec_l09Box.m, spec_l09Box.b, List.range_succ, c1, c2, c3, c4, hne, eqL, eqT]
  by_cases c5 : a.next = b.next
  rotate_left
  · have hne : ¬ a = b := fun q => c5 (by rw [q])
    simp [exB, spec_l09Box.m, spec_l09Box.b, List.range_succ, c1, c2, c3, c4, c5, hne, eqL, eqT]
  by_cases c6 : a.mails.length = b.mails.length
  rotate_left
  · have hne : ¬ a = b := fun q => c6 (by rw [q])
    have c6' : ¬ (a.mails.length : Int) = b.mails.length := by omega
    simp [exB, spec_l09Box.m, spec_l09Box.b, List.range_succ, c1, c2, c3, c4, c5, c6, c6', hne, eqL, eqT]
  by_cases c7 : a.gone.length = b.gone.length
  rotate_left
  · have hne : ¬ a = b := fun q => c7 (by rw [q])
    have c7' : ¬ (a.gone.length : Int) = b.gone.length := by omega
    simp [exB, spec_l09Box.m, spec_l09Box.b, List.range_succ, c1, c2, c3, c4, c5, c6, c7, c7', hne, eqL, eqT]
  obtain ⟨K, hK⟩ : ∃ K, K = a.mails.length + a.gone.length + 1 := ⟨_, rfl⟩
  rw [← hK]
  have hml := ha.m
  have hgl := ha.g
  have hfl := ha.f
  obtain ⟨g, hr⟩ := eq_loop a.mails b.mails c6 (f := exC (run M) K spec_l09Box.l0) (sbS a b) 4 0 (sbE a b)
    (fun i hi hi' x c => by
      obtain ⟨v, w, x⟩ := x
      have e5 := wrap1 (i := i) (by omega)
      have hm := spec_SameMail.says k1 a.mails[i] b.mails[i] (hfl _ (List.getElem_mem hi))
      rw [decide_eq_true c] at hm
      simp only [encMail] at hm
      simp only [Prod.exists]
      simp [sbS, spec_l09Box.l0, hi, hi', e5, encMail, hm])
    (fun i hi hi' x c => by
      obtain ⟨v, w, x⟩ := x
      have hm := spec_SameMail.says k1 a.mails[i] b.mails[i] (hfl _ (List.getElem_mem hi))
      rw [decide_eq_false c] at hm
      simp only [encMail] at hm
      simp [sbS, spec_l09Box.l0, hi, hi', encMail, hm])
    (fun x => by
      obtain ⟨v, w, x⟩ := x
      simp only [Prod.exists]
      simp [sbS, sbE, spec_l09Box.l0])
  have hr' := fun x => loopN_more (hr x) (show a.mails.length + 1 ≤ K by omega)
  by_cases c8 : a.mails = b.mails
  rotate_left
  · have hne : ¬ a = b := fun q => c8 (by rw [q])
    simp only [c8, if_false] at hr'
    simp [sbS, encBox, c1, c2, c3, c4, c5] at hr'
    simp [exB, spec_l09Box.m, spec_l09Box.b, List.range_succ, encBox, c1, c2, c3, c4, c5, c6, c7, hne, eqL, eqT, hr']
  obtain ⟨g2, hr2⟩ := eq_loop a.gone b.gone c7 (f := exC (run M) K spec_l09Box.l1) (sb2S a b) 4 2 (sb2E a b)
    (fun i hi hi' x c => by
      obtain ⟨v, w, x⟩ := x
      have e5 := wrap1 (i := i) (by omega)
      simp only [Prod.exists]
      simp [sb2S, spec_l09Box.l1, hi, hi', e5, c])
    (fun i hi hi' x c => by
      obtain ⟨v, w, x⟩ := x
      simp [sb2S, spec_l09Box.l1, hi, hi', c])
    (fun x => by
      obtain ⟨v, w, x⟩ := x
      simp only [Prod.exists]
      simp [sb2S, sb2E, spec_l09Box.l1])
  have hr2' := fun x => loopN_more (hr2 x) (show a.gone.length + 1 ≤ K by omega)
  simp only [c8, if_true] at hr'
  by_cases c9 : a.gone = b.gone
  · have he : a = b := box_ext c1 c2 c3 c4 c5 c8 c9
    subst he
    simp only [if_true] at hr2'
    simp [sbS, sbE, encBox] at hr'
    simp [sb2S, sb2E, encBox] at hr2'
    simp [exB, spec_l09Box.m, spec_l09Box.b, List.range_succ, encBox, eqL, eqT, hr', hr2']
  · have hne : ¬ a = b := fun q => c9 (by rw [q])
    simp only [c9, if_false] at hr2'
    simp [sbS, sbE, encBox, c1, c2, c3, c4, c5, c8] at hr'
    simp [sb2S, sb2E, encBox, c1, c2, c3, c4, c5, c8] at hr2'
    simp [exB, spec_l09Box.m, spec_l09Box.b, List.range_succ, encBox, c1, c2, c3, c4, c5, c7, c8, hne, eqL, eqT, hr', hr2']
def ebS (a b : List Box) (i : Nat) (x : Nat) : St := { t := [(1, .c (boxes b)), (2, .c (.fn 119 [])), (15, .c (boxes a)), (16, .c (I a.length)), (17, .c (I i))], o := [], n := x }
def ebE (a b : List Box) (x : Nat) : St := { t := [(1, .c (boxes b)), (2, .c (.fn 119 [])), (15, .c (boxes a)), (16, .c (I a.length)), (17, .c (I a.length)), (18, .c (.bool false))], o := [], n := x }
theorem slices_EqualFunc_boxes (h : slices_EqualFunc_impl_Box_impl_Box_impl_Box_impl_Box.k M) (h2 : impl_sameBox.k M) (a b : List Box) (hal : a.length ≤ 1048576) (ha : ∀ x ∈ a, BoxEq x) :
    run M 118 [.c (boxes a), .c (boxes b), .c (.fn 119 [])] [] = some (.c (.bool (decide (a = b))), []) := by
  refine run_code (b := slices_EqualFunc_impl_Box_impl_Box_impl_Box_impl_Box.m) h ⟨a.length + 1, ?_⟩
  by_cases c4 : a.length = b.length
  rotate_left
  · have hne : ¬ a = b := fun q => c4 (by rw [q])
    have c4' : ¬ (a.length : Int) = b.length := by omega
    simp [exB, slices_EqualFunc_impl_Box_impl_Box_impl_Box_impl_Box.m, slices_EqualFunc_impl_Box_impl_Box_impl_Box_impl_Box.b, List.range_succ, c4, c4', hne]
  obtain ⟨g, hr⟩ := eq_loop a b c4 (f := exC (run M) (a.length + 1) slices_EqualFunc_impl_Box_impl_Box_impl_Box_impl_Box.l0) (ebS a b) 6 0 (ebE a b)
    (fun i hi hi' x c => by
      have e5 := wrap1 (i := i) (by omega)
      have hm := impl_sameBox.says h2 a[i] b[i] (ha _ (List.getElem_mem hi))
      rw [decide_eq_true c] at hm
      simp only [encBox] at hm
      simp [ebS, slices_EqualFunc_impl_Box_impl_Box_impl_Box_impl_Box.l0, hi, hi', e5, encBox, hm, setAt])
    (fun i hi hi' x c => by
      have hm := impl_sameBox.says h2 a[i] b[i] (ha _ (List.getElem_mem hi))
      rw [decide_eq_false c] at hm
      simp only [encBox] at hm
      simp [ebS, slices_EqualFunc_impl_Box_impl_Box_impl_Box_impl_Box.l0, hi, hi', encBox, hm, setAt])
    (fun x => by simp [ebS, ebE, slices_EqualFunc_impl_Box_impl_Box_impl_Box_impl_Box.l0])
  by_cases c5 : a = b
  · subst c5
    simp [ebS, ebE] at hr
    simp [exB, slices_EqualFunc_impl_Box_impl_Box_impl_Box_impl_Box.m, slices_EqualFunc_impl_Box_impl_Box_impl_Box_impl_Box.b, List.range_succ, hr]
  · simp [ebS, ebE, c5] at hr
    simp only [c4] at hr
    simp [exB, slices_EqualFunc_impl_Box_impl_Box_impl_Box_impl_Box.m, slices_EqualFunc_impl_Box_impl_Box_impl_Box_impl_Box.b, List.range_succ, hr, c4, c5]
def alike (a b : Store) : Bool := decide (a.boxes = b.boxes) && decide (a.gone = b.gone)
theorem impl_Alike.says (h : impl_Alike.k M) (a b : Store) (ha : StoreEq a) : run M 32 [.a (encStore a), .a (encStore b)] [] = some (.c (.bool (alike a b)), []) := by
  obtain ⟨h0, k1, k2, k3⟩ := h
  have h1 := slices_EqualFunc_boxes k1 k2 a.boxes b.boxes ha.b ha.box
  have h2 := slices_Equal_int_int.says k3 a.gone b.gone ha.g
  refine run_code (b := impl_Alike.m) h0 ⟨0, ?_⟩
  unfold alike
  by_cases c : a.boxes = b.boxes
  · simp only [c, decide_true] at h1
    simp [exB, impl_Alike.m, impl_Alike.b, List.range_succ, h1, h2, c]
  · simp only [c, decide_false] at h1
    simp [exB, impl_Alike.m, impl_Alike.b, List.range_succ, h1, c]
def saS (a b : Store) (i : Nat) (x : Nat × Nat × Nat) : St := { t := [(2, .c (.ptr 2 x.1 0 0)), (3, .c (.ptr 3 x.2.1 0 0)), (5, .c (I i))], o := [(2, ⟨x.1, 4, true, true, [encStore a]⟩), (3, ⟨x.2.1, 4, true, true, [encStore b]⟩)], n := x.2.2 }
def saE (a b : Store) (x : Nat × Nat × Nat) : St := { t := [(2, .c (.ptr 2 x.1 0 0)), (3, .c (.ptr 3 x.2.1 0 0)), (5, .c (I a.boxes.length)), (27, .c (.bool false))], o := [(2, ⟨x.1, 4, true, true, [encStore a]⟩), (3, ⟨x.2.1, 4, true, true, [encStore b]⟩)], n := x.2.2 }
def sa2S (a b : Store) (i : Nat) (x : Nat × Nat × Nat) : St := { t := [(2, .c (.ptr 2 x.1 0 0)), (3, .c (.ptr 3 x.2.1 0 0)), (6, .c (I i))], o := [(2, ⟨x.1, 4, true, true, [encStore a]⟩), (3, ⟨x.2.1, 4, true, true, [encStore b]⟩)], n := x.2.2 }
def sa2E (a b : Store) (x : Nat × Nat × Nat) : St := { t := [(2, .c (.ptr 2 x.1 0 0)), (3, .c (.ptr 3 x.2.1 0 0)), (6, .c (I a.gone.length)), (46, .c (.bool false))], o := [(2, ⟨x.1, 4, true, true, [encStore a]⟩), (3, ⟨x.2.1, 4, true, true, [encStore b]⟩)], n := x.2.2 }
theorem spec_Alike.says (h : spec_Alike.k M) (a b : Store) (ha : StoreEq a) : run M 31 [.a (encStore a), .a (encStore b)] [] = some (.c (.bool (alike a b)), []) := by
  obtain ⟨h0, k1⟩ := h
  refine run_code (b := spec_Alike.m) h0 ⟨a.boxes.length + a.gone.length + 1, ?_⟩
  unfold alike
  by_cases c6 : a.boxes.length = b.boxes.length
  rotate_left
  · have hne : ¬ a.boxes = b.boxes := fun q => c6 (by rw [q])
    have c6' : ¬ (a.boxes.length : Int) = b.boxes.length := by omega
    simp [exB, spec_Alike.m, spec_Alike.b, List.range_succ, c6, c6', hne]
  by_cases c7 : a.gone.length = b.gone.length
  rotate_left
  · have hne : ¬ a.gone = b.gone := fun q => c7 (by rw [q])
    have c7' : ¬ (a.gone.length : Int) = b.gone.length := by omega
    simp [exB, spec_Alike.m, spec_Alike.b, List.range_succ, c6, c7, c7', hne]
  obtain ⟨K, hK⟩ : ∃ K, K = a.boxes.length + a.gone.length + 1 := ⟨_, rfl⟩
  rw [← hK]
  have hbl := ha.b
  have hgl := ha.g
  obtain ⟨g, hr⟩ := eq_loop a.boxes b.boxes c6 (f := exC (run M) K spec_Alike.l0) (saS a b) 4 0 (saE a b)
    (fun i hi hi' x c => by
      obtain ⟨v, w, x⟩ := x
      have e5 := wrap1 (i := i) (by omega)
      have hm := spec_l09Box.says k1 a.boxes[i] b.boxes[i] (ha.box _ (List.getElem_mem hi))
      rw [decide_eq_true c] at hm
      simp only [encBox] at hm
      simp only [Prod.exists]
      simp [saS, spec_Alike.l0, hi, hi', e5, encBox, hm])
    (fun i hi hi' x c => by
      obtain ⟨v, w, x⟩ := x
      have hm := spec_l09Box.says k1 a.boxes[i] b.boxes[i] (ha.box _ (List.getElem_mem hi))
      rw [decide_eq_false c] at hm
      simp only [encBox] at hm
      simp [saS, spec_Alike.l0, hi, hi', encBox, hm])
    (fun x => by
      obtain ⟨v, w, x⟩ := x
      simp only [Prod.exists]
      simp [saS, saE, spec_Alike.l0])
  have hr' := fun x => loopN_more (hr x) (show a.boxes.length + 1 ≤ K by omega)
  by_cases c8 : a.boxes = b.boxes
  rotate_left
  · simp only [c8, if_false] at hr'
    simp [saS, encStore] at hr'
    simp [exB, spec_Alike.m, spec_Alike.b, List.range_succ, encStore, c6, c7, c8, hr']
  obtain ⟨g2, hr2⟩ := eq_loop a.gone b.gone c7 (f := exC (run M) K spec_Alike.l1) (sa2S a b) 4 2 (sa2E a b)
    (fun i hi hi' x c => by
      obtain ⟨v, w, x⟩ := x
      have e5 := wrap1 (i := i) (by omega)
      simp only [Prod.exists]
      simp [sa2S, spec_Alike.l1, hi, hi', e5, c])
    (fun i hi hi' x c => by
      obtain ⟨v, w, x⟩ := x
      simp [sa2S, spec_Alike.l1, hi, hi', c])
    (fun x => by
      obtain ⟨v, w, x⟩ := x
      simp only [Prod.exists]
      simp [sa2S, sa2E, spec_Alike.l1])
  have hr2' := fun x => loopN_more (hr2 x) (show a.gone.length + 1 ≤ K by omega)
  simp only [c8, if_true] at hr'
  by_cases c9 : a.gone = b.gone
  · simp only [c9, if_true] at hr2'
    simp [saS, saE, encStore, c8, c9] at hr'
    simp [sa2S, sa2E, encStore, c8, c9] at hr2'
    simp [exB, spec_Alike.m, spec_Alike.b, List.range_succ, encStore, c8, c9, hr', hr2']
  · simp only [c9, if_false] at hr2'
    simp [saS, saE, encStore, c8] at hr'
    simp [sa2S, sa2E, encStore, c8] at hr2'
    simp [exB, spec_Alike.m, spec_Alike.b, List.range_succ, encStore, c7, c8, c9, hr', hr2']
end Mx

namespace Mx
open Go
variable {M : Nat → Option Body}
set_option maxHeartbeats 8000000 in
theorem spec_l09Two.says (h : spec_l09Two.k M) {R : List (List T)} (hR : Bytes R) (i : Nat) (q : Int) (hi : i ≤ R.length) :
    ∃ (a b : Store) (i' : Nat) (q' : Int), (storeOk a = true ∧ storeOk b = true) ∧ i' ≤ R.length ∧ run M 511 [.c (.ptr 0 0 0 0)] [curD R i q] = some (.tup [.a (encStore a), .a (encStore b)], [curD R i' q']) := by
  obtain ⟨h0, kn, kb, ks, ko, ku, kj⟩ := h
  obtain ⟨n, i1, q1, hn, hc1, h1⟩ := spec_l01Below.says kb hR i q hi 8 (by omega) (by omega)
  obtain ⟨m, i2, q2, hm, hc2, h2⟩ := spec_l01Below.says kb hR i1 q1 hc1 8 (by omega) (by omega)
  obtain ⟨k, i3, q3, hk, hc3, h3⟩ := spec_l01Below.says kb hR i2 q2 hc2 8 (by omega) (by omega)
  simp only [Int.cast_ofNat_Int] at h1 h2 h3
  have n1 := spec_StoreNew.says kn 1
  have n2 := spec_StoreNew.says kn 2
  obtain ⟨a1, w1, i4, q4, hu1, _, hc4, h4⟩ := spec_l07Use.says ku hR i3 q3 hc3 false 0 ⟨1, 0, [], []⟩ (usedW_new (by omega) (by omega) false) k 100 (by omega) (by omega)
  have h5 := spec_JoinStore.says kj ⟨2, 0, [], []⟩ a1 (storeOk_good (usedW_new (by omega) (by omega) false).ok) (storeOk_good hu1.ok)
  have e5 := joinStore_new hu1.ok 2
  have hb1 : storeOk { a1 with who := 2 } = true := ok_who hu1.ok (by omega)
  obtain ⟨a2, w2, i5, q5, hu2, _, hc5, h6⟩ := spec_l07Use.says ku hR i4 q4 hc4 false 0 a1 ⟨hu1.ok, fun e => by cases e⟩ n 200 (by omega) (by omega)
  obtain ⟨b2, w3, i6, q6, hu3, _, hc6, h7⟩ := spec_l07Use.says ku hR i5 q5 hc5 false 0 { a1 with who := 2 } ⟨hb1, fun e => by cases e⟩ m 300 (by omega) (by omega)
  obtain ⟨z, i7, q7, hc7, h8⟩ := spec_l01Once.says ko hR i6 q6 hc6 3 (by omega) (by omega)
  simp only [Int.cast_ofNat_Int] at h4 h6 h7 h8
  have et : Max.max (0 : Int) a1.time = a1.time := Int.max_eq_right (storeOk_iff.1 hu1.ok).time.1
  rw [e5] at h5
  simp only [et] at h5
  simp only [encStore, encStoreW, boxes, ints, irow_nil, List.map_nil] at h4 h5 h6 h7
  cases z
  · refine ⟨a2, b2, i7, q7, ⟨hu2.ok, hu3.ok⟩, hc7, run_code (b := spec_l09Two.m) h0 ⟨0, ?_⟩⟩
    simp only [encStore, boxes, ints]
    generalize a1.boxes.map encBox = ra1 at *
    generalize irow a1.gone = ga1 at *
    generalize a2.boxes.map encBox = ra2 at *
    generalize irow a2.gone = ga2 at *
    generalize b2.boxes.map encBox = rb2 at *
    generalize irow b2.gone = gb2 at *
    simp (maxSteps := 1000000) [exB, spec_l09Two.m, spec_l09Two.b, List.range_succ, bs_get, setAt, h1, h2, h3, h4, h5, h6, h7, h8, n1, n2, List.take_of_length_le]
  · have h9 := spec_JoinStore.says kj a2 b2 (storeOk_good hu2.ok) (storeOk_good hu3.ok)
    have h10 := spec_StoreOk.says ks _ (joinStoreI_in (storeOk_good hu2.ok) (storeOk_good hu3.ok))
    obtain ⟨e, i8, q8, he, hc8, h11⟩ := spec_l01Below.says kb hR i7 q7 hc7 5 (by omega) (by omega)
    simp only [Int.cast_ofNat_Int] at h11
    have hw : (joinStoreI a2 b2).who = a2.who := rfl
    have ht : (joinStoreI a2 b2).time = Max.max a2.time b2.time := rfl
    cases c : storeOk (joinStoreI a2 b2) with
    | false =>
      rw [c] at h10
      obtain ⟨b3, w4, i9, q9, hu4, _, hc9, h12⟩ := spec_l07Use.says ku hR i8 q8 hc8 false 0 b2 ⟨hu3.ok, fun e => by cases e⟩ e 500 (by omega) (by omega)
      simp only [Int.cast_ofNat_Int] at h12
      refine ⟨a2, b3, i9, q9, ⟨hu2.ok, hu4.ok⟩, hc9, run_code (b := spec_l09Two.m) h0 ⟨0, ?_⟩⟩
      simp only [encStore, encStoreW, boxes, ints, hw, ht] at h9 h10 h12 ⊢
      generalize (joinStoreI a2 b2).boxes.map encBox = rj at *
      generalize irow (joinStoreI a2 b2).gone = gj at *
      generalize a1.boxes.map encBox = ra1 at *
      generalize irow a1.gone = ga1 at *
      generalize a2.boxes.map encBox = ra2 at *
      generalize irow a2.gone = ga2 at *
      generalize b2.boxes.map encBox = rb2 at *
      generalize irow b2.gone = gb2 at *
      generalize b3.boxes.map encBox = rb3 at *
      generalize irow b3.gone = gb3 at *
      simp (maxSteps := 1000000) [exB, spec_l09Two.m, spec_l09Two.b, List.range_succ, bs_get, setAt, h1, h2, h3, h4, h5, h6, h7, h8, h9, h10, h11, h12, n1, n2, List.take_of_length_le]
    | true =>
      rw [c] at h10
      obtain ⟨a3, w5, i9, q9, hu5, _, hc9, h12⟩ := spec_l07Use.says ku hR i8 q8 hc8 false 0 (joinStoreI a2 b2) ⟨c, fun e => by cases e⟩ e 400 (by omega) (by omega)
      obtain ⟨f, i10, q10, hf, hc10, h13⟩ := spec_l01Below.says kb hR i9 q9 hc9 5 (by omega) (by omega)
      obtain ⟨b3, w4, i11, q11, hu4, _, hc11, h14⟩ := spec_l07Use.says ku hR i10 q10 hc10 false 0 b2 ⟨hu3.ok, fun e => by cases e⟩ f 500 (by omega) (by omega)
      simp only [Int.cast_ofNat_Int] at h12 h13 h14
      refine ⟨a3, b3, i11, q11, ⟨hu5.ok, hu4.ok⟩, hc11, run_code (b := spec_l09Two.m) h0 ⟨0, ?_⟩⟩
      simp only [encStore, encStoreW, boxes, ints, hw, ht] at h9 h10 h12 h14 ⊢
      generalize (joinStoreI a2 b2).boxes.map encBox = rj at *
      generalize irow (joinStoreI a2 b2).gone = gj at *
      generalize a1.boxes.map encBox = ra1 at *
      generalize irow a1.gone = ga1 at *
      generalize a2.boxes.map encBox = ra2 at *
      generalize irow a2.gone = ga2 at *
      generalize b2.boxes.map encBox = rb2 at *
      generalize irow b2.gone = gb2 at *
      generalize a3.boxes.map encBox = ra3 at *
      generalize irow a3.gone = ga3 at *
      generalize b3.boxes.map encBox = rb3 at *
      generalize irow b3.gone = gb3 at *
      simp (maxSteps := 1000000) [exB, spec_l09Two.m, spec_l09Two.b, List.range_succ, bs_get, setAt, h1, h2, h3, h4, h5, h6, h7, h8, h9, h10, h11, h12, h13, h14, n1, n2, List.take_of_length_le]
theorem spec_DrawTwoStores.says (h : spec_DrawTwoStores.k M) {R : List (List T)} (hR : Bytes R) :
    ∃ a b : Store, (storeOk a = true ∧ storeOk b = true) ∧ run M 503 [.c (.sl false 1 R)] [] = some (.tup [.a (encStore a), .a (encStore b)], []) := by
  obtain ⟨h0, k1, k2⟩ := h
  obtain ⟨q0, h1⟩ := spec_l01New.says k1 hR
  obtain ⟨a, b, i', q', ho, hi', h2⟩ := spec_l09Two.says k2 hR 0 q0 (Nat.zero_le _)
  have e0 : ((0 : Nat) : Int) = 0 := rfl
  simp only [curD, e0] at h2
  refine ⟨a, b, ho, run_code (b := spec_DrawTwoStores.m) h0 ⟨0, ?_⟩⟩
  simp only [encStore, boxes, ints] at h2 ⊢
  generalize a.boxes.map encBox = ra at *
  generalize irow a.gone = ga at *
  generalize b.boxes.map encBox = rb at *
  generalize irow b.gone = gb at *
  simp (maxSteps := 1000000) [exB, spec_DrawTwoStores.m, spec_DrawTwoStores.b, List.range_succ, bs_get, setAt, h1, h2, List.take_of_length_le]
end Mx

namespace Mx
open Go
variable {M : Nat → Option Body}
def figs : List UInt8 := [48, 49, 50, 51, 52, 53, 54, 55, 56, 57, 97, 98, 99, 100, 101, 102]
structure HxS where
  i : Nat
  l : List UInt8
  v : Nat
  n : Nat
def hxS (x : List UInt8) (s : HxS) : St := { t := [(0, .c (S x)), (4, .c (.row 12 s.v 0 s.l.length)), (5, .c (I s.i))], o := [(12, ⟨s.v, 1, true, false, brow s.l⟩)], n := s.n }
def hxE (x : List UInt8) (s : HxS) : St := { t := [(0, .c (S x)), (4, .c (.row 12 s.v 0 s.l.length)), (5, .c (I s.i)), (16, .c (.bool false))], o := [(12, ⟨s.v, 1, true, false, brow s.l⟩)], n := s.n }
theorem and_15 (n : Nat) (h : n < 256) : ∃ c : Nat, c < 16 ∧ andI .u8 n 15 = (c : Int) := by
  have key : ∀ n : Fin 256, andI .u8 (n.val : Int) 15 = ((n.val % 16 : Nat) : Int) := by decide +kernel
  exact ⟨n % 16, Nat.mod_lt _ (by omega), key ⟨n, h⟩⟩
theorem hx_turn (k : Nat) (x : List UInt8) (s : HxS) (hi : s.i < x.length) (hx : x.length ≤ 20000) (hl : s.l.length = 2 * s.i) :
    ∃ s', exC (run M) k impl_Hex.l0 (hxS x s) = some (.normal, hxS x s') ∧ s'.i = s.i + 1 ∧ s'.l.length = 2 * s'.i := by
  obtain ⟨i, l, v, n⟩ := s
  simp only at hi hl
  have hb : x[i].toNat < 256 := x[i].toNat_lt
  obtain ⟨c, hc, e2⟩ := and_15 x[i].toNat hb
  obtain ⟨a, ha, e1⟩ : ∃ a : Nat, a < 16 ∧ (x[i].toNat : Int).fdiv 16 = (a : Int) := ⟨x[i].toNat / 16, by omega, by rw [Int.fdiv_eq_ediv_of_nonneg _ (by omega)]; omega⟩
  have e3 : (2 : Int) ^ min 4 IntKind.u8.bits = 16 := by decide
  have hz : figs.length = 16 := rfl
  have e5 := wrap1 (i := i) (by omega)
  suffices hh : ∃ v' n', exC (run M) k impl_Hex.l0 (hxS x ⟨i, l, v, n⟩) = some (.normal, hxS x ⟨i + 1, l ++ [figs[a], figs[c]], v', n'⟩) by
    obtain ⟨v', n', hh⟩ := hh
    exact ⟨_, hh, rfl, by simp; omega⟩
  have hbr : brow (l ++ [figs[a], figs[c]]) = brow l ++ [[U8 (figs[a]).toNat], [U8 (figs[c]).toNat]] := by simp [brow]
  have hbl := brow_len l
  have g1 : ∀ hh, (⟨#[48,49,50,51,52,53,54,55,56,57,97,98,99,100,101,102]⟩ : ByteArray)[a]'hh = figs[a] := fun hh => bs_get figs a hh
  have g2 : ∀ hh, (⟨#[48,49,50,51,52,53,54,55,56,57,97,98,99,100,101,102]⟩ : ByteArray)[c]'hh = figs[c] := fun hh => bs_get figs c hh
  have hs : (⟨#[48,49,50,51,52,53,54,55,56,57,97,98,99,100,101,102]⟩ : ByteArray).size = 16 := rfl
  simp only [hxS, hbr, List.length_append, List.length_cons, List.length_nil]
  generalize brow l = rl at *
  have h2 : l.length + 2 ≤ 4294967296 := by omega
  simp (maxSteps := 1000000) [impl_Hex.l0, List.range_succ, bs_get, setAt, hi, e1, e2, e3, e5, ha, hc, hs, g1, g2, hbl, h2, List.take_of_length_le]
theorem hx_end (k : Nat) (x : List UInt8) (s : HxS) (hi : ¬ s.i < x.length) : ∃ n', exC (run M) k impl_Hex.l0 (hxS x s) = some (.exit 0, hxE x { s with n := n' }) := by
  obtain ⟨i, l, v, n⟩ := s
  simp only at hi
  have hbl := brow_len l
  simp only [hxS, hxE]
  generalize brow l = rl at *
  simp (maxSteps := 1000000) [impl_Hex.l0, List.range_succ, bs_get, setAt, hi]
theorem impl_Hex.says (h : impl_Hex.k M) (x : List UInt8) (hx : x.length ≤ 20000) : ∃ l : List UInt8, l.length ≤ 40000 ∧ run M 513 [.c (S x)] [] = some (.tup [.c (S l), .c (.bool true)], []) := by
  obtain ⟨r, hr, ⟨⟨i, l, v, n⟩, rfl, hl, hi⟩⟩ := loop_ex (f := exC (run M) (x.length + 1) impl_Hex.l0) (hxS x) (fun s => s.i ≤ x.length ∧ s.l.length = 2 * s.i) (fun s => x.length - s.i) (fun r => ∃ s, r = (.exit 0, hxE x s) ∧ s.l.length = 2 * s.i ∧ s.i ≤ x.length)
    (fun s hs => by
      by_cases c : s.i < x.length
      · left
        obtain ⟨s', h1, h2, h3⟩ := hx_turn (M := M) (x.length + 1) x s c hx hs.2
        exact ⟨s', h1, ⟨by omega, h3⟩, by omega⟩
      · right
        obtain ⟨n', h1⟩ := hx_end (M := M) (x.length + 1) x s c
        exact ⟨_, h1, by simp, _, rfl, hs.2, hs.1⟩) (x.length + 1) ⟨0, [], 2000128, 2000176⟩ ⟨by simp, rfl⟩ (by simp)
  simp only at hl hi
  refine ⟨l, by omega, run_code (b := impl_Hex.m) h ⟨x.length + 1, ?_⟩⟩
  have e0 : ((0 : Nat) : Int) = 0 := rfl
  have eb : brow [] = [] := rfl
  simp only [hxS, hxE, e0, eb, List.length_nil] at hr
  have c1 : ¬ (20000 : Int) < x.length := by omega
  have c2 : IntKind.i64.wrap (2 * (x.length : Int)) = 2 * (x.length : Int) := wrap_i64 (by omega) (by omega)
  have c7 : (0 : Int) ≤ 2 * (x.length : Int) := by omega
  have c8 : (2 * (x.length : Int)).toNat = 2 * x.length := by omega
  have c3 : 2 * x.length ≤ 4294967296 := by omega
  have c4 : 2 * x.length ≤ 140737488355328 := by omega
  have c5 : rowsBytes ((brow l).take l.length) = some l := by rw [List.take_of_length_le (by rw [brow_len]; omega)]; exact brow_bytes l
  have c6 : rowsBytes (brow l) = some l := brow_bytes l
  have hbl := brow_len l
  generalize brow l = rl at *
  simp (maxSteps := 1000000) [exB, impl_Hex.m, impl_Hex.b, List.range_succ, bs_get, setAt, hr, c1, c2, c3, c4, c5, c6, c7, c8, hbl, List.take_of_length_le]
theorem impl_told.says (h : impl_told.k M) (n : Int) (h1 : -9223372036854775808 ≤ n) (h2 : n ≤ 9223372036854775807) : ∃ l : List UInt8, l.length ≤ 21 ∧ run M 512 [.c (I n)] [] = some (.c (S l), []) := by
  obtain ⟨h0, kd⟩ := h
  by_cases c : 0 < n
  · have h3 := impl_Decimal.says kd n h1 h2
    refine ⟨dec n, dec_len h1 h2, run_code (b := impl_told.m) h0 ⟨0, ?_⟩⟩
    simp (maxSteps := 1000000) [exB, impl_told.m, impl_told.b, List.range_succ, bs_get, setAt, h3, c]
  · have h3 := impl_Decimal.says kd 0 (by omega) (by omega)
    refine ⟨dec 0, dec_len (by omega) (by omega), run_code (b := impl_told.m) h0 ⟨0, ?_⟩⟩
    simp (maxSteps := 1000000) [exB, impl_told.m, impl_told.b, List.range_succ, bs_get, setAt, h3, c]
structure FoS where
  i : Nat
  z : Int
  n : Nat
def foS (l : List Reg) (s : FoS) : St := { t := [(0, .c (regs l)), (3, .c (I s.z)), (4, .c (I s.i))], o := [], n := s.n }
def foE (l : List Reg) (s : FoS) : St := { t := [(0, .c (regs l)), (3, .c (I s.z)), (4, .c (I s.i)), (12, .c (.bool false))], o := [], n := s.n }
theorem wrap_rng (k : IntKind) (x : Int) (hk : k = .i64) : -9223372036854775808 ≤ k.wrap x ∧ k.wrap x ≤ 9223372036854775807 := by
  subst hk
  unfold IntKind.wrap
  simp [IntKind.bits, IntKind.signed]
  split <;> omega
def InI (z : Int) : Prop := -9223372036854775808 ≤ z ∧ z ≤ 9223372036854775807
theorem impl_FlagsOf.says (h : impl_FlagsOf.k M) (l : List Reg) (hl : l.length ≤ 1048576) : ∃ z : Int, InI z ∧ run M 514 [.c (regs l)] [] = some (.c (I z), []) := by
  have er : (l.map encReg).length = l.length := by simp
  obtain ⟨r, hr, ⟨⟨i, z, n⟩, rfl, hz⟩⟩ := loop_ex (f := exC (run M) 5 impl_FlagsOf.l0) (foS l) (fun s => s.i ≤ 3 ∧ InI s.z) (fun s => 3 - s.i) (fun r => ∃ s, r = (.exit 0, foE l s) ∧ InI s.z)
    (fun s hs => by
      obtain ⟨i, z, n⟩ := s
      obtain ⟨hi, hz⟩ := hs
      simp only at hi hz
      by_cases c : i < l.length
      · by_cases c3 : i < 3
        · left
          have c3' : (i : Int) < 3 := by omega
          have e5 := wrap1 (i := i) (by omega)
          have a1 : ∀ hh, (l.map encReg)[i]'hh = encReg l[i] := by intro hh; simp
          have n1 : ¬ (i : Int) < 0 := by omega
          have hh : ∃ z', InI z' ∧ ∃ n', exC (run M) 5 impl_FlagsOf.l0 (foS l ⟨i, z, n⟩) = some (.normal, foS l ⟨i + 1, z', n'⟩) := by
            refine ⟨IntKind.i64.wrap (z + IntKind.i64.wrap (andI .i64 l[i].val 1 * ((2 ^ (min i 64) : Nat) : Int))), wrap_rng _ _ rfl, ?_⟩
            simp only [foS, regs]
            simp only [encReg] at a1
            have e6 : IntKind.i64.bits = 64 := rfl
            generalize l.map encReg = rl at *
            generalize hq : ((2 ^ (min i 64) : Nat) : Int) = p
            have hq2 : (2 : Int) ^ (min i 64) = p := by rw [← hq]; norm_cast
            generalize l[i].val = vv at *
            simp (maxSteps := 1000000) [impl_FlagsOf.l0, List.range_succ, bs_get, setAt, c, c3, c3', e5, e6, er, a1, n1, hq, hq2, List.take_of_length_le]
          obtain ⟨z', hz', n', hh⟩ := hh
          exact ⟨_, hh, ⟨by simp only; omega, hz'⟩, by simp only; omega⟩
        · right
          have c3' : ¬ (i : Int) < 3 := by omega
          have hh : ∃ n', exC (run M) 5 impl_FlagsOf.l0 (foS l ⟨i, z, n⟩) = some (.exit 0, foE l ⟨i, z, n'⟩) := by
            simp only [foS, foE, regs]
            generalize l.map encReg = rl at *
            simp (maxSteps := 1000000) [impl_FlagsOf.l0, List.range_succ, bs_get, setAt, c, c3, c3', er]
          obtain ⟨n', hh⟩ := hh
          exact ⟨_, hh, by simp, _, rfl, hz⟩
      · right
        have hh : ∃ n', exC (run M) 5 impl_FlagsOf.l0 (foS l ⟨i, z, n⟩) = some (.exit 0, foE l ⟨i, z, n'⟩) := by
          simp only [foS, foE, regs]
          generalize l.map encReg = rl at *
          simp (maxSteps := 1000000) [impl_FlagsOf.l0, List.range_succ, bs_get, setAt, c, er]
        obtain ⟨n', hh⟩ := hh
        exact ⟨_, hh, by simp, _, rfl, hz⟩) 5 ⟨0, 0, 2000048⟩ ⟨by simp, by simp [InI]⟩ (by simp)
  simp only at hz
  refine ⟨z, hz, run_code (b := impl_FlagsOf.m) h ⟨5, ?_⟩⟩
  have e0 : ((0 : Nat) : Int) = 0 := rfl
  simp only [foS, foE, e0, regs] at hr ⊢
  generalize l.map encReg = rl at *
  simp (maxSteps := 1000000) [exB, impl_FlagsOf.m, impl_FlagsOf.b, List.range_succ, bs_get, setAt, hr]
def sdS (B : List Box) (i : Nat) (l : List Mail) (k : Nat) (out : List UInt8) (n : Nat) : St := { t := [(3, .c (S out)), (11, .c (boxes B)), (12, .c (I B.length)), (13, .c (I i)), (28, .c (mails l)), (29, .c (I l.length)), (30, .c (I k))], o := [], n := n }
def sdE (B : List Box) (i : Nat) (l : List Mail) (k : Nat) (out : List UInt8) (n : Nat) : St := { t := [(3, .c (S out)), (11, .c (boxes B)), (12, .c (I B.length)), (13, .c (I i)), (28, .c (mails l)), (29, .c (I l.length)), (30, .c (I k)), (31, .c (.bool false))], o := [], n := n }
def sgbS (B : List Box) (i : Nat) (out : List UInt8) (n : Nat) : St := { t := [(3, .c (S out)), (11, .c (boxes B)), (12, .c (I B.length)), (13, .c (I i))], o := [], n := n }
def sgbE (B : List Box) (i : Nat) (out : List UInt8) (n : Nat) : St := { t := [(3, .c (S out)), (11, .c (boxes B)), (12, .c (I B.length)), (13, .c (I i)), (14, .c (.bool false))], o := [], n := n }
/-- a mail of which something may be said -/
def SayM (m : Mail) : Prop := m.text.length ≤ 20000 ∧ m.flags.length ≤ 1048576 ∧ InI m.uid
def SayB (b : Box) : Prop := b.mails.length ≤ 1000 ∧ b.name.length ≤ 1000 ∧ InI b.next ∧ ∀ m ∈ b.mails, SayM m
set_option maxHeartbeats 2000000 in
theorem sd_turn (kt : impl_told.k M) (kh : impl_Hex.k M) (kf : impl_FlagsOf.k M) (K : Nat) (B : List Box) (i : Nat) (l : List Mail) (k : Nat) (out : List UInt8) (n : Nat) (hk : k < l.length) (hl : l.length ≤ 1000) (hm : SayM l[k]) (ho : out.length ≤ 1000000000000) :
    ∃ out' n', out'.length ≤ out.length + 50000 ∧ exC (run M) K impl_SaidOf.l1 (sdS B i l k out n) = some (.normal, sdS B i l (k + 1) out' n') := by
  obtain ⟨m1, m2, m3⟩ := hm
  obtain ⟨hx, hxl, h1⟩ := impl_Hex.says kh l[k].text m1
  obtain ⟨u, hul, h2⟩ := impl_told.says kt l[k].uid m3.1 m3.2
  obtain ⟨z, hz, h3⟩ := impl_FlagsOf.says kf l[k].flags m2
  obtain ⟨w, hwl, h4⟩ := impl_told.says kt z hz.1 hz.2
  have er : (l.map encMail).length = l.length := by simp
  have a1 : ∀ hh, (l.map encMail)[k]'hh = encMail l[k] := by intro hh; simp
  have e5 := wrap1 (i := k) (by omega)
  refine ⟨out ++ ([32] ++ (u ++ ([32] ++ (w ++ ([32] ++ (hx ++ [10])))))), ?_⟩
  have hlen : (out ++ ([32] ++ (u ++ ([32] ++ (w ++ ([32] ++ (hx ++ [10]))))))).length ≤ out.length + 50000 := by simp; omega
  simp only [hlen, true_and]
  simp only [sdS, mails]
  simp only [encMail, regs] at a1 h3
  generalize l[k].flags.map encReg = rf at *
  generalize l.map encMail = rl at *
  simp (maxSteps := 1000000) (disch := (first | omega | (simp; done) | (simp; omega))) [impl_SaidOf.l1, List.range_succ, bs_get, List.take_of_length_le, setAt, str_add, hk, h1, h2, h3, h4, e5, er, a1]
theorem sd_end (K : Nat) (B : List Box) (i : Nat) (l : List Mail) (k : Nat) (out : List UInt8) (n : Nat) (hk : ¬ k < l.length) : ∃ n', exC (run M) K impl_SaidOf.l1 (sdS B i l k out n) = some (.exit 2, sdE B i l k out n') := by
  simp only [sdS, sdE, mails]
  generalize l.map encMail = rl at *
  simp (maxSteps := 1000000) [impl_SaidOf.l1, List.range_succ, bs_get, setAt, hk]
/-- said of a box's mails -/
theorem sd_loop (kt : impl_told.k M) (kh : impl_Hex.k M) (kf : impl_FlagsOf.k M) (K : Nat) (B : List Box) (i : Nat) (l : List Mail) (out : List UInt8) (n : Nat) (hl : l.length ≤ 1000) (hm : ∀ m ∈ l, SayM m) (ho : out.length ≤ 100000000000) (hK : l.length < K) :
    ∃ y : List UInt8 × Nat × Nat, loopN (exC (run M) K impl_SaidOf.l1) K (sdS B i l 0 out n) = some (.exit 2, sdE B i l y.2.1 y.1 y.2.2) ∧ y.1.length ≤ out.length + 50000000 := by
  obtain ⟨c0, hc0⟩ : ∃ c0 : Nat, c0 = 50000 := ⟨_, rfl⟩
  obtain ⟨r, hr, ⟨⟨o', k', n'⟩, rfl, hI⟩⟩ := loop_ex (f := exC (run M) K impl_SaidOf.l1) (fun y : List UInt8 × Nat × Nat => sdS B i l y.2.1 y.1 y.2.2) (fun y => y.2.1 ≤ l.length ∧ y.1.length ≤ out.length + c0 * y.2.1) (fun y => l.length - y.2.1) (fun r => ∃ y : List UInt8 × Nat × Nat, r = (.exit 2, sdE B i l y.2.1 y.1 y.2.2) ∧ y.1.length ≤ out.length + 50000000)
    (fun y hy => by
      obtain ⟨o', k', n'⟩ := y
      obtain ⟨h1, h2⟩ := hy
      simp only at h1 h2
      by_cases c : k' < l.length
      · left
        have h5 : c0 * k' ≤ c0 * 1000 := Nat.mul_le_mul_left _ (by omega)
        have h6 : c0 * (k' + 1) = c0 * k' + c0 := Nat.mul_succ _ _
        obtain ⟨o2, n2, h3, h4⟩ := sd_turn kt kh kf K B i l k' o' n' c hl (hm _ (List.getElem_mem c)) (by omega)
        exact ⟨(o2, k' + 1, n2), h4, ⟨by simp only; omega, by simp only; omega⟩, by simp only; omega⟩
      · right
        obtain ⟨n2, h4⟩ := sd_end (M := M) K B i l k' o' n' c
        have h5 : c0 * k' ≤ c0 * 1000 := Nat.mul_le_mul_left _ (by omega)
        exact ⟨_, h4, by simp, (o', k', n2), rfl, by simp only; omega⟩) K (out, 0, n) ⟨Nat.zero_le _, by simp⟩ (by simpa using hK)
  exact ⟨(o', k', n'), hr, hI⟩
set_option maxHeartbeats 2000000 in
theorem sg_turn (kt : impl_told.k M) (kh : impl_Hex.k M) (kf : impl_FlagsOf.k M) (K : Nat) (B : List Box) (i : Nat) (out : List UInt8) (n : Nat) (hi : i < B.length) (hB : B.length ≤ 1000) (hb : SayB B[i]) (ho : out.length ≤ 90000000000) (hK : 1000 < K) :
    ∃ out' n', out'.length ≤ out.length + 60000000 ∧ exC (run M) K impl_SaidOf.l0 (sgbS B i out n) = some (.normal, sgbS B (i + 1) out' n') := by
  obtain ⟨b1, b2, b3, b4⟩ := hb
  obtain ⟨u, hul, h2⟩ := impl_told.says kt B[i].next b3.1 b3.2
  have hlen : (out ++ (B[i].name ++ 32 :: (u ++ [10]))).length ≤ out.length + 2000 := by simp; omega
  obtain ⟨Y, hY⟩ := Classical.skolem.1 fun n => sd_loop kt kh kf K B i B[i].mails (out ++ (B[i].name ++ 32 :: (u ++ [10]))) n b1 b4 (by omega) (by omega)
  have er : (B.map encBox).length = B.length := by simp
  have em : (B[i].mails.map encMail).length = B[i].mails.length := by simp
  have a1 : ∀ hh, (B.map encBox)[i]'hh = encBox B[i] := by intro hh; simp
  have e5 := wrap1 (i := i) (by omega)
  have ez : ((0 : Nat) : Int) = 0 := rfl
  have r1 := fun n => (hY n).1
  have r2 := fun n => (hY n).2
  suffices hh : ∃ m n', exC (run M) K impl_SaidOf.l0 (sgbS B i out n) = some (.normal, sgbS B (i + 1) (Y m).1 n') by
    obtain ⟨m, n', hh⟩ := hh
    exact ⟨(Y m).1, n', by have := r2 m; omega, hh⟩
  simp only [sdS, sdE, ez, mails, boxes] at r1
  simp only [sgbS, boxes]
  simp only [encBox, mails, ints] at a1
  generalize B[i].mails.map encMail = rm at *
  generalize irow B[i].gone = rg at *
  generalize B.map encBox = rb at *
  simp (maxSteps := 1000000) (disch := (first | omega | (simp; done) | (simp; omega))) [impl_SaidOf.l0, List.range_succ, bs_get, List.take_of_length_le, setAt, str_add, hi, h2, r1, e5, er, em, a1]
  exact ⟨_, rfl⟩
theorem sg_end (K : Nat) (B : List Box) (i : Nat) (out : List UInt8) (n : Nat) (hi : ¬ i < B.length) : ∃ n', exC (run M) K impl_SaidOf.l0 (sgbS B i out n) = some (.exit 0, sgbE B i out n') := by
  simp only [sgbS, sgbE, boxes]
  generalize B.map encBox = rb at *
  simp (maxSteps := 1000000) [impl_SaidOf.l0, List.range_succ, bs_get, setAt, hi]
/-- what is said hangs on the boxes alone -/
theorem impl_SaidOf.says (h : impl_SaidOf.k M) (B : List Box) (hB : B.length ≤ 1000) (hb : ∀ b ∈ B, SayB b) : ∃ z : List UInt8, ∀ s : Store, s.boxes = B → run M 504 [.a (encStore s)] [] = some (.c (S z), []) := by
  obtain ⟨h0, kt, kh, kf⟩ := h
  obtain ⟨K, hK⟩ : ∃ K : Nat, K = 1001 := ⟨_, rfl⟩
  obtain ⟨c0, hc0⟩ : ∃ c0 : Nat, c0 = 60000000 := ⟨_, rfl⟩
  obtain ⟨r, hr, ⟨⟨o', k', n'⟩, rfl⟩⟩ := loop_ex (f := exC (run M) K impl_SaidOf.l0) (fun y : List UInt8 × Nat × Nat => sgbS B y.2.1 y.1 y.2.2) (fun y => y.2.1 ≤ B.length ∧ y.1.length ≤ c0 * y.2.1) (fun y => B.length - y.2.1) (fun r => ∃ y : List UInt8 × Nat × Nat, r = (.exit 0, sgbE B y.2.1 y.1 y.2.2))
    (fun y hy => by
      obtain ⟨o', k', n'⟩ := y
      obtain ⟨h1, h2⟩ := hy
      simp only at h1 h2
      by_cases c : k' < B.length
      · left
        have h5 : c0 * k' ≤ c0 * 1000 := Nat.mul_le_mul_left _ (by omega)
        obtain ⟨o2, n2, h3, h4⟩ := sg_turn kt kh kf K B k' o' n' c hB (hb _ (List.getElem_mem c)) (by omega) (by omega)
        have h6 : c0 * (k' + 1) = c0 * k' + c0 := Nat.mul_succ _ _
        exact ⟨(o2, k' + 1, n2), h4, ⟨by simp only; omega, by simp only; omega⟩, by simp only; omega⟩
      · right
        obtain ⟨n2, h4⟩ := sg_end (M := M) K B k' o' n' c
        exact ⟨_, h4, by simp, (o', k', n2), rfl⟩) K ([], 0, 2000112) ⟨Nat.zero_le _, by simp⟩ (by simp only; omega)
  refine ⟨o', fun s hs => run_code (b := impl_SaidOf.m) h0 ⟨K, ?_⟩⟩
  subst hs
  have ez : ((0 : Nat) : Int) = 0 := rfl
  have er : (s.boxes.map encBox).length = s.boxes.length := by simp
  simp only [sgbS, sgbE, ez, boxes, bs] at hr
  simp only [encStore, boxes, ints]
  generalize s.boxes.map encBox = rb at *
  generalize irow s.gone = rs at *
  simp (maxSteps := 1000000) [exB, impl_SaidOf.m, impl_SaidOf.b, List.range_succ, bs_get, setAt, hr, er]
end Mx

namespace Mx
open Go
variable {M : Nat → Option Body}
theorem joinStore_eq {a b : Store} (ha : StoreGood a) (hb : StoreGood b) : StoreEq (joinStoreI a b) := by
  have H := joinStoreI_in ha hb
  exact ⟨H.b, H.g, fun b hb => ⟨(H.i b hb).m, (H.i b hb).g, (H.i b hb).f⟩⟩
end Mx

namespace Mx
open Go
variable {M : Nat → Option Body}
theorem say_good {s : Store} (h : storeOk s = true) : s.boxes.length ≤ 1000 ∧ ∀ b ∈ s.boxes, SayB b := by
  have G := storeOk_iff.1 h
  refine ⟨by have := G.len; omega, fun b hb => ?_⟩
  have g := (G.box b hb).1
  refine ⟨by have := g.len; omega, by have := (nameOk_len g.name).2; omega, ⟨by have := g.next; omega, by have := g.next; omega⟩, fun m hm => ?_⟩
  have v := mailOk_vars (g.mail m hm).1
  have h1 := v.2.1.1
  have h2 := v.2.1.2
  exact ⟨by have := v.2.2.2.2; omega, by have := v.2.2.1; omega, by simp only [InI]; omega⟩
set_option maxHeartbeats 8000000 in
set_option maxRecDepth 100000 in
theorem laws_FnStoresJoin.says (h : laws_FnStoresJoin.k M) (R : List (List T)) (hl : R.length ≤ 9223372036854775807) (hr : ∀ (i : Nat) (r : List T), R[i]? = some r → ∃ n : Int, r = [.int .u8 n]) :
    run M 497 [.c (.sl false 1 R)] [] = some (.c (.bool true), []) := by
  obtain ⟨h0, ksal, kal, kbig, kok, kfs, kfi, kjs, kj, kd, ksa⟩ := h
  have hbig := laws_big.says kbig R hl
  refine run_code (b := laws_FnStoresJoin.m) h0 ⟨0, ?_⟩
  by_cases cb : 1048576 < R.length
  · rw [decide_eq_true cb] at hbig
    simp (maxSteps := 1000000) [exB, laws_FnStoresJoin.m, laws_FnStoresJoin.b, List.range_succ, bs_get, setAt, hbig]
  rw [decide_eq_false cb] at hbig
  have hR : Bytes R := ⟨by omega, hr⟩
  obtain ⟨a, b, ⟨oa, ob⟩, h1⟩ := spec_DrawTwoStores.says kd hR
  have Ha := storeOk_good oa
  have Hb := storeOk_good ob
  have h2 := impl_JoinStore.says kj a b Ha Hb
  have h3 := impl_JoinStore.says kj b a Hb Ha
  have h4 := spec_JoinStore.says kjs a b Ha Hb
  have h5 := impl_FitsStore.says kfi a b (ok_store oa).in_ (ok_store ob).in_
  have h6 := impl_FitsStore.says kfi b a (ok_store ob).in_ (ok_store oa).in_
  have h7 := spec_FitsStore.says kfs a b (ok_store oa).in_ (ok_store ob).in_
  rw [fits_comm b a] at h6
  have hf : fitsStore a b = storeOk (joinStoreI a b) := by unfold fitsStore; rw [oa, ob]; rfl
  rw [hf] at h5 h6 h7
  have ec := joinStore_comm Ha Hb
  have he := joinStore_eq Ha Hb
  have h8 := impl_Alike.says kal (joinStoreI a b) (joinStoreI b a) he
  have h9 := spec_Alike.says ksal (joinStoreI a b) (joinStoreI a b) he
  have hal : alike (joinStoreI a b) (joinStoreI b a) = true := by rw [ec]; simp [alike]
  have hal2 : alike (joinStoreI a b) (joinStoreI a b) = true := by simp [alike]
  rw [hal] at h8
  rw [hal2] at h9
  rw [ec] at h3 h8
  have hw : (joinStoreI a b).who = a.who := rfl
  have ht : (joinStoreI a b).time = Max.max a.time b.time := rfl
  have hm : Max.max b.time a.time = Max.max a.time b.time := Int.max_comm _ _
  rw [hm] at h3
  cases c : storeOk (joinStoreI a b) with
  | false =>
    rw [c] at h5 h6 h7
    clear he hal hal2 ec hf
    generalize joinStoreI a b = j at *
    simp only [encStore, boxes, ints, hw, ht] at h1 h2 h3 h4 h5 h6 h7 h8 h9
    generalize Max.max a.time b.time = tj at *
    generalize a.boxes.map encBox = ra at *
    generalize irow a.gone = ga at *
    generalize b.boxes.map encBox = rb at *
    generalize irow b.gone = gb at *
    generalize j.boxes.map encBox = rj at *
    generalize irow j.gone = gj at *
    simp (maxSteps := 1000000) [exB, laws_FnStoresJoin.m, laws_FnStoresJoin.b, List.range_succ, bs_get, setAt, hbig, h1, h2, h3, h4, h5, h6, h7, h8, h9, List.take_of_length_le]
  | true =>
    rw [c] at h5 h6 h7
    have Hj := storeOk_good c
    have Hk : StoreGood { joinStoreI a b with who := b.who } := ⟨Hj.boxes, Hj.gone, Hj.asc⟩
    have h10 := impl_StoreOk.says kok (joinStoreI a b) (ok_store c).in_
    rw [c] at h10
    have h11 := impl_JoinStore.says kj (joinStoreI a b) { joinStoreI a b with who := b.who } Hj Hk
    rw [joinStore_self c b.who] at h11
    have h12 := impl_Alike.says kal (joinStoreI a b) (joinStoreI a b) he
    rw [hal2] at h12
    obtain ⟨s1, s2⟩ := say_good c
    obtain ⟨z, hz⟩ := impl_SaidOf.says ksa (joinStoreI a b).boxes s1 s2
    have h13 := hz (joinStoreI a b) rfl
    have h14 := hz { joinStoreI a b with who := b.who } rfl
    clear he hal hal2 ec hf Hj Hk s1 s2 hz
    generalize joinStoreI a b = j at *
    simp only [encStore, boxes, ints, hw, ht, Int.max_self] at h1 h2 h3 h4 h5 h6 h7 h8 h9 h10 h11 h12 h13 h14
    generalize Max.max a.time b.time = tj at *
    generalize a.boxes.map encBox = ra at *
    generalize irow a.gone = ga at *
    generalize b.boxes.map encBox = rb at *
    generalize irow b.gone = gb at *
    generalize j.boxes.map encBox = rj at *
    generalize irow j.gone = gj at *
    simp (maxSteps := 1000000) [exB, laws_FnStoresJoin.m, laws_FnStoresJoin.b, List.range_succ, bs_get, setAt, hbig, h1, h2, h3, h4, h5, h6, h7, h8, h9, h10, h11, h12, h13, h14, List.take_of_length_le]
theorem laws_FnStoresJoin.row (h : laws_FnStoresJoin.k M) {as : List V} (ha : HasVs [.cell (.sl [.int .u8])] as) : run M 497 as [] = some (.c (.bool true), []) := by
  cases ha with | cons h0 ha =>
  cases ha
  cases h0 with | cell h0 =>
  cases h0 with | sl _ rows hl h1 h2 =>
  refine laws_FnStoresJoin.says h rows (Nat.le_trans hl (by decide)) fun i r hr => ?_
  have hlen := h1 i r hr
  match r, hlen with
  | [a], _ =>
    obtain ⟨n, rfl⟩ := has_int (h2 i 0 [a] (.int .u8) a hr rfl rfl)
    exact ⟨n, rfl⟩
end Mx
