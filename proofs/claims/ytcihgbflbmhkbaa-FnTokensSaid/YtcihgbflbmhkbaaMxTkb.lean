/-
  What more of the functions compute, each by a small evaluation; no condition beyond what each says.
-/
import Derived.Orders
import Derived.LoopN
import Derived.Below
import Derived.Carry
import Derived.Deep.Slices
import Derived.ChangeArms
import Derived.WalkKit
import Derived.ProofKit
import Derived.OpenShut
import Derived.ShutString
import Derived.ChangeOld
import Derived.SizedLaws
import Derived.Lib.Bytealg
import Derived.Sort.Row
import Derived.Sort.Grow
import Derived.Lib.SlicesCompact
import Derived.Lib.IndexMore
import Derived.Test.YtcihgbflbmhkbaaMxTk
set_option linter.unusedSimpArgs false
set_option linter.unusedVariables false
namespace Mx
open Go
variable {P : Program} {F : Nat → FuncId} {Pr : Nat → Prop} {w0 : World} {lb : Lb} {N : Nat} {E : Nat → Option Loc} {n : Nat} {t : List (Nat × V)} {o : List (Nat × Ob)} {a : Act} {w : World}
def Moves (X Y : Cx) : Prop := ∀ t v, Closed t → Rep X t v → Rep Y t v
structure Home (X Y : Cx) (own : Nat → Option Loc) (lent : List (Nat × Ob)) (n : Nat) (lmap : List (Nat × Nat × Nat)) (thaw : List (Nat × Nat)) : Prop where
  heap : Y.w = X.w
  hown : ∀ q id, get thaw q = some id → Y.E (n + q) = own q
  free : ∀ q b cap sz, get thaw q = none → own q = some (.blk b cap sz) → ¬ Y.U b
  hlent : ∀ p id ver, get lmap p = some (id, ver) → ∃ ob, get lent p = some ob ∧ ∀ l, X.E p = some l → Y.E ver = some l
/-- a thawed place -/
def Thawed (X : Cx) (own : Nat → Option Loc) (n : Nat) (thaw : List (Nat × Nat)) (fl : Bool) (u : Nat × Ob) : Prop :=
  ∃ q l, get thaw q = some u.1 ∧ own q = some l ∧ u.2.ver = n + q ∧ u.2.w = true ∧ (∀ (i j : Nat) (r : List T) (t : T), u.2.rows[i]? = some r → r[j]? = some t → Closed t) ∧ RepLoc X u.2 l ∧ (fl = true → u.2.rows.all (fun r => r.all T.scalar) = true)
theorem RepLoc.ver {X : Cx} {ob ob' : Ob} {l : Loc} (h : RepLoc X ob l) (h1 : ob'.rows = ob.rows) (h2 : ob'.sz = ob.sz) (h3 : ob'.bx = ob.bx) : RepLoc X ob' l := by
  cases l with
  | nil => exact ⟨by rw [h1]; exact h.1, by rw [h3]; exact h.2⟩
  | blk b cap sz => exact ⟨by rw [h2]; exact h.1, h.2.move rfl h1 h2 (by rw [h1, h3]; exact h.2.cl) fun i j r t v _ _ hv => hv⟩
theorem all_scalar {rows : List (List T)} (h : rows.all (fun r => r.all T.scalar) = true) {i j : Nat} {r : List T} {t : T} (hi : rows[i]? = some r) (hj : r[j]? = some t) : t.scalar = true := by
  simp only [List.all_eq_true] at h
  exact h r (List.mem_of_getElem? hi) t (List.mem_of_getElem? hj)
theorem own_rep {X Y : Cx} {sz : Nat} {rows : List (List T)} {l : Loc} (hr : RepLoc X { ver := 0, sz := sz, w := true, bx := false, rows := rows } l) (hw : Y.w = X.w) (hu : ∀ b cap sz, l = .blk b cap sz → ¬ Y.U b)
    (hm : Moves X Y ∨ rows.all (fun r => r.all T.scalar) = true) : Rep Y (.sl false sz rows) (locV l rows.length) := by
  cases l with
  | nil =>
    obtain ⟨h, _⟩ := hr
    simp only at h
    subst h
    exact Rep.empty (X := Y) false sz none 0
  | blk b cap sz' =>
    obtain ⟨e, hl, hwid, hcl, cs, e1, fr, m1, m2, m3, m4⟩ := hr
    simp only at e hl hwid hcl m2 m4
    subst e
    refine .sl false sz' rows (some (baseA b)) cap (fun i j => cs.getD (i * sz' + j) undef) hl hwid ?_ ?_ (hcl trivial)
    · intro i j r t hi ht
      obtain ⟨v, hv, _⟩ := m4 i j r t hi ht
      refine ⟨_, rfl, hu b cap sz' rfl, ?_⟩
      rw [baseA_add, hw]
      simp only [World.cell?, m1, Option.isSome_none, Bool.false_eq_true, if_false, Array.getD_eq_getD_getElem?, hv]; rfl
    · intro i j r t hi ht
      obtain ⟨v, hv, hrep⟩ := m4 i j r t hi ht
      simp only [Array.getD_eq_getD_getElem?, hv, Option.getD_some]
      rcases hm with hm | hm
      · exact hm _ _ (hcl trivial i j r t hi ht) hrep
      · exact hrep.scalar (all_scalar hm hi ht)
theorem backT_ok {X Y : Cx} {own : Nat → Option Loc} {lent : List (Nat × Ob)} {lmap : List (Nat × Nat × Nat)} {thaw : List (Nat × Nat)} {q : Nat} {x y : T} {ups : List (Nat × Ob)} {v : Value} {fl : Bool}
    (H : Home X Y own lent n lmap thaw) (hm : Moves X Y ∨ fl = true) (hf : fl = true → flatT x = true) (h : backT n lmap thaw q x = some (y, ups)) (hr : ResT X own lent q x v) :
    Rep Y y v ∧ ∀ u ∈ ups, Thawed X own n thaw fl u := by
  cases hr with
  | int k m => simp [backT] at h; obtain ⟨rfl, rfl⟩ := h; exact ⟨.int _ _, fun u hu => by simp at hu⟩
  | bool b => simp [backT] at h; obtain ⟨rfl, rfl⟩ := h; exact ⟨.bool _, fun u hu => by simp at hu⟩
  | str s => simp [backT] at h; obtain ⟨rfl, rfl⟩ := h; exact ⟨.str _, fun u hu => by simp at hu⟩
  | own sz rows l ho hl =>
    simp only [backT] at h
    split at h
    · rename_i id hid
      simp only [if_true, Option.some.injEq, Prod.mk.injEq] at h
      obtain ⟨rfl, rfl⟩ := h
      have hE := H.hown q id hid
      rw [ho] at hE
      refine ⟨?_, fun u hu => ?_⟩
      · cases l with
        | nil =>
          have := hl.1; simp only at this; subst this
          exact .rown id (n + q) hE
        | blk b cap sz' =>
          have hlen : rows.length ≤ cap := hl.2.len
          have := rep_row0 (X := Y) (id := id) (ver := n + q) hE hlen
          exact this
      · simp only [List.mem_singleton] at hu
        subst hu
        exact ⟨q, l, hid, ho, rfl, rfl, (match l, hl with | .nil, hl => fun i j r t hi _ => (by have := hl.1; simp only at this; subst this; simp at hi) | .blk _ _ _, hl => hl.2.cl rfl), hl.ver rfl rfl rfl, fun hfl => by have := hf hfl; simpa [flatT] using this⟩
    · rename_i hid
      simp only [Option.some.injEq, Prod.mk.injEq] at h
      obtain ⟨rfl, rfl⟩ := h
      exact ⟨own_rep hl H.heap (fun b cap sz e => H.free q b cap sz hid (by rw [ho, e])) (hm.imp id fun k => by have := hf k; simpa [flatT] using this), fun u hu => by simp at hu⟩
  | box cells b cap ho hl hc =>
    simp only [backT] at h
    split at h
    · rename_i id hid
      simp only [Option.some.injEq, Prod.mk.injEq] at h
      obtain ⟨rfl, rfl⟩ := h
      have hE := H.hown q id hid
      rw [ho] at hE
      refine ⟨?_, fun u hu => ?_⟩
      · have := Rep.ptr (X := Y) id (n + q) 0 0 b cap cells.length hE
        simpa [add_zero] using this
      · simp only [List.mem_singleton] at hu
        subst hu
        refine ⟨q, _, hid, ho, rfl, rfl, fun i j r t hi ht => ?_, hl.ver rfl rfl rfl, fun hfl => by have := hf hfl; simp [flatT] at this⟩
        cases i with
        | zero => simp at hi; subst hi; exact hc j t ht
        | succ i => simp at hi
    · cases h
  | sh sz rows _ hs =>
    simp only [backT] at h
    split at h
    · simp at h
    · simp only [Option.some.injEq, Prod.mk.injEq] at h
      obtain ⟨rfl, rfl⟩ := h
      refine ⟨?_, fun u hu => by simp at hu⟩
      rcases hm with hm | hm
      · refine hm _ _ ?_ hs
        cases hs with | sl _ _ _ A c vs h1 h2 h3 h4 h5 => exact .sl _ _ _ h5
      · have := hf hm; simp [flatT] at this
  | row p ver off len _ hs =>
    simp only [backT] at h
    split at h
    · rename_i id ver' hp
      simp only [Option.some.injEq, Prod.mk.injEq] at h
      obtain ⟨rfl, rfl⟩ := h
      obtain ⟨ob, h1, h2⟩ := H.hlent p id ver' hp
      refine ⟨?_, fun u hu => by simp at hu⟩
      have := hs ob h1
      cases this with
      | row _ _ _ _ cap sz b hE hl ho => exact .row _ _ off len cap sz b (h2 _ hE) hl ho
      | rown _ _ hE => exact .rown _ _ (h2 _ hE)
    · cases h
theorem backL_ok {X Y : Cx} {own : Nat → Option Loc} {lent : List (Nat × Ob)} {lmap : List (Nat × Nat × Nat)} {thaw : List (Nat × Nat)} {fl : Bool}
    (H : Home X Y own lent n lmap thaw) (hm : Moves X Y ∨ fl = true) : ∀ {q : Nat} {xs ys : List T} {ups : List (Nat × Ob)} {vs : List Value}, (fl = true → xs.all flatT = true) → backL n lmap thaw q xs = some (ys, ups) → ResL X own lent q xs vs →
    RepL Y ys vs ∧ ∀ u ∈ ups, Thawed X own n thaw fl u
  | q, [], ys, ups, vs, hf, h, hr => by
    simp [backL] at h; obtain ⟨rfl, rfl⟩ := h
    cases vs with
    | nil => exact ⟨.nil Y, fun u hu => by simp at hu⟩
    | cons => simp [ResL] at hr
  | q, x :: xs, ys, ups, vs, hf, h, hr => by
    cases vs with
    | nil => simp [ResL] at hr
    | cons v vs =>
      simp only [backL] at h
      split at h
      · rename_i y u1 h1
        split at h
        · rename_i ys' u2 h2
          simp only [Option.some.injEq, Prod.mk.injEq] at h
          obtain ⟨rfl, rfl⟩ := h
          obtain ⟨r1, r2⟩ := hr
          have hf' := fun k => by have := hf k; simpa [List.all_cons, Bool.and_eq_true] using this
          obtain ⟨a1, a2⟩ := backT_ok H hm (fun k => (hf' k).1) h1 r1
          obtain ⟨b1, b2⟩ := backL_ok H hm (fun k => by simpa using (hf' k).2) h2 r2
          refine ⟨.cons a1 b1, fun u hu => ?_⟩
          rcases List.mem_append.1 hu with q | q
          · exact a2 u q
          · exact b2 u q
        · cases h
      · cases h
def V.flat1 : V → Bool
  | .c t => flatT t
  | .a ts => ts.all flatT
  | _ => false
theorem backV_ok {X Y : Cx} {own : Nat → Option Loc} {lent : List (Nat × Ob)} {lmap : List (Nat × Nat × Nat)} {thaw : List (Nat × Nat)} {fl : Bool} {q q' : Nat} {x y : V} {ups : List (Nat × Ob)} {v : Value}
    (H : Home X Y own lent n lmap thaw) (hm : Moves X Y ∨ fl = true) (hf : fl = true → x.flat1 = true) (h : backV n lmap thaw q x = some (y, ups, q')) (hr : ResV X own lent q x v) :
    RepV Y y v ∧ q' = q + x.width ∧ ∀ u ∈ ups, Thawed X own n thaw fl u := by
  cases x with
  | c x =>
    simp only [backV] at h
    split at h
    · rename_i t' u1 h1
      simp only [Option.some.injEq, Prod.mk.injEq] at h
      obtain ⟨rfl, rfl, rfl⟩ := h
      obtain ⟨a1, a2⟩ := backT_ok H hm hf h1 hr
      exact ⟨.c _ _ a1, rfl, a2⟩
    · cases h
  | a xs =>
    simp only [backV] at h
    split at h
    · rename_i ys u1 h1
      simp only [Option.some.injEq, Prod.mk.injEq] at h
      obtain ⟨rfl, rfl, rfl⟩ := h
      cases v with
      | agg cs =>
        obtain ⟨a1, a2⟩ := backL_ok H hm hf h1 hr
        have := RepV.ofL a1
        exact ⟨by simpa using this, rfl, a2⟩
      | _ => simp [ResV] at hr
    · cases h
  | tup => simp [backV] at h
  | undef => simp [backV] at h
theorem backVs_ok {X Y : Cx} {own : Nat → Option Loc} {lent : List (Nat × Ob)} {lmap : List (Nat × Nat × Nat)} {thaw : List (Nat × Nat)} {fl : Bool}
    (H : Home X Y own lent n lmap thaw) (hm : Moves X Y ∨ fl = true) : ∀ {q : Nat} {xs ys : List V} {ups : List (Nat × Ob)} {vs : List Value}, (fl = true → xs.all V.flat1 = true) → backVs n lmap thaw q xs = some (ys, ups) → ResVs X own lent q xs vs →
    ys.length = vs.length ∧ (∀ (i : Nat) (y : V) (v : Value), ys[i]? = some y → vs[i]? = some v → RepV Y y v) ∧ ∀ u ∈ ups, Thawed X own n thaw fl u
  | q, [], ys, ups, vs, hf, h, hr => by
    simp [backVs] at h; obtain ⟨rfl, rfl⟩ := h
    cases vs with
    | nil => exact ⟨rfl, fun i y v h => by simp at h, fun u hu => by simp at hu⟩
    | cons => simp [ResVs] at hr
  | q, x :: xs, ys, ups, vs, hf, h, hr => by
    cases vs with
    | nil => simp [ResVs] at hr
    | cons v vs =>
      simp only [backVs] at h
      split at h
      · rename_i y u1 q1 h1
        split at h
        · rename_i ys' u2 h2
          simp only [Option.some.injEq, Prod.mk.injEq] at h
          obtain ⟨rfl, rfl⟩ := h
          obtain ⟨r1, r2⟩ := hr
          have hf' := fun k => by have := hf k; simpa [List.all_cons, Bool.and_eq_true] using this
          obtain ⟨a1, rfl, a2⟩ := backV_ok H hm (fun k => (hf' k).1) h1 r1
          obtain ⟨b0, b1, b2⟩ := backVs_ok H hm (fun k => by simpa using (hf' k).2) h2 r2
          refine ⟨by simp [b0], ?_, fun u hu => ?_⟩
          · intro i y v hy hv
            cases i with
            | zero => simp at hy hv; subst hy hv; exact a1
            | succ i => exact b1 i y v (by simpa using hy) (by simpa using hv)
          · rcases List.mem_append.1 hu with q | q
            · exact a2 u q
            · exact b2 u q
        · cases h
      · cases h
theorem back_ok {X Y : Cx} {own : Nat → Option Loc} {lent : List (Nat × Ob)} {lmap : List (Nat × Nat × Nat)} {thaw : List (Nat × Nat)} {x y : V} {ups : List (Nat × Ob)} {v : Value} {fl : Bool}
    (H : Home X Y own lent n lmap thaw) (hm : Moves X Y ∨ fl = true) (hf : fl = true → x.flat = true) (h : back n lmap thaw x = some (y, ups)) (hr : ResA X own lent x v) :
    RepV Y y v ∧ ∀ u ∈ ups, Thawed X own n thaw fl u := by
  cases x with
  | tup vs =>
    simp only [back, Option.map_eq_some_iff, Prod.mk.injEq] at h
    obtain ⟨r, h1, rfl, rfl⟩ := h
    cases v with
    | tuple xs =>
      obtain ⟨b0, b1, b2⟩ := backVs_ok H hm (fun k => hf k) h1 hr
      exact ⟨.tup _ _ (by simpa using b0) fun i v x h1 h2 => b1 i v x h1 (by simpa using h2), b2⟩
    | _ => simp [ResA, ResV] at hr
  | c t =>
    simp only [back, Option.map_eq_some_iff, Prod.mk.injEq] at h
    obtain ⟨r, h1, rfl, rfl⟩ := h
    obtain ⟨a1, _, a2⟩ := backV_ok H hm (x := .c t) hf (q' := r.2.2) h1 hr
    exact ⟨a1, a2⟩
  | a ts =>
    simp only [back, Option.map_eq_some_iff, Prod.mk.injEq] at h
    obtain ⟨r, h1, rfl, rfl⟩ := h
    obtain ⟨a1, _, a2⟩ := backV_ok H hm (x := .a ts) hf (q' := r.2.2) h1 hr
    exact ⟨a1, a2⟩
  | undef => simp [back, backV] at h
/-- what was lent comes back -/
theorem lentBack_ok {nn : Nat} {o after : List (Nat × Ob)} : ∀ {ls : List (Nat × Nat × Ob)} {ups : List (Nat × Ob)}, lentBack nn o after ls = some ups →
    (∀ u ∈ ups, ∃ l ∈ ls, ∃ b, l.2.1 = u.1 ∧ get o u.1 = some b ∧ u.2 = backOb nn b (get after l.1)) ∧ ∀ l ∈ ls, ∃ ob, get ups l.2.1 = some ob
  | [], ups, h => by simp [lentBack] at h; subst h; exact ⟨fun u hu => by simp at hu, fun l hl => by simp at hl⟩
  | (p, id, ob) :: ls, ups, h => by
    simp only [lentBack] at h
    split at h
    · rename_i b l h2 h3
      cases h
      obtain ⟨i1, i2⟩ := lentBack_ok h3
      refine ⟨fun u hu => ?_, fun l' hl => ?_⟩
      · rcases List.mem_cons.1 hu with rfl | hu
        · exact ⟨_, List.mem_cons_self .., b, rfl, h2, rfl⟩
        · obtain ⟨l', k1, k2⟩ := i1 u hu
          exact ⟨l', List.mem_cons_of_mem _ k1, k2⟩
      · simp only [get]
        split
        · exact ⟨_, rfl⟩
        · rename_i hne
          rcases List.mem_cons.1 hl with rfl | hl
          · exact (hne rfl).elim
          · exact i2 l' hl
    · cases h
end Mx

namespace Mx
open Go
variable {P : Program} {F : Nat → FuncId} {Pr : Nat → Prop} {w0 : World} {lb : Lb} {N : Nat} {E : Nat → Option Loc} {n : Nat → Prop} {t : List (Nat × V)} {o : List (Nat × Ob)} {a : Act} {w : World}
theorem lendOne_lend {p id : Nat} {v v' : V} {ob : Ob} (h : lendOne o p v = some (v', id, ob)) : LendOk o (p, id, ob) := by
  unfold lendOne at h
  split at h
  · split at h
    · rename_i b hg
      split at h
      · rename_i hc
        simp only [Option.map_eq_some_iff, Prod.mk.injEq] at h
        obtain ⟨rows, hm, rfl, rfl, rfl⟩ := h
        exact ⟨b, hg, hc.2.1, rfl, rfl, hc.2.1, rfl, .inr hm⟩
      · cases h
    · cases h
  · split at h
    · rename_i b hg
      split at h
      · rename_i hc
        simp only [Option.some.injEq, Prod.mk.injEq] at h
        obtain ⟨rfl, rfl, rfl⟩ := h
        exact ⟨b, hg, hc.2.1, rfl, rfl, hc.2.1, rfl, .inl ⟨rfl, hc.2.2.1⟩⟩
      · cases h
    · cases h
  · cases h
theorem lendL_lend {lend : List Nat} : ∀ {ts : List T} {k : Nat} {ts' : List T} {ls : List (Nat × Nat × Ob)} {b : List Nat}, lendL o lend k ts = some (ts', ls, b) →
    (∀ l ∈ ls, k ≤ l.1 ∧ l.1 < k + ts.length ∧ LendOk o l) ∧ (ls.map (·.1)).Nodup
  | [], k, ts', ls, b, h => by
    simp [lendL] at h
    obtain ⟨rfl, rfl, rfl⟩ := h
    exact ⟨fun l hl => by simp at hl, by simp⟩
  | t :: ts, k, ts', ls, b, h => by
    simp only [lendL] at h
    split at h
    · cases h
    · rename_i ts1 ls1 b1 hrest
      obtain ⟨i3, i4⟩ := lendL_lend hrest
      split at h
      · split at h
        · rename_i t' id ob hlo
          simp only [Option.some.injEq, Prod.mk.injEq] at h
          obtain ⟨rfl, rfl, rfl⟩ := h
          have k1 := lendOne_lend hlo
          refine ⟨?_, ?_⟩
          · intro l hl
            rcases List.mem_cons.1 hl with rfl | hl
            · exact ⟨Nat.le_refl _, by simp, k1⟩
            · obtain ⟨q1, q2, q3⟩ := i3 l hl
              exact ⟨by omega, by simp; omega, q3⟩
          · simp only [List.map_cons, List.nodup_cons]
            refine ⟨?_, i4⟩
            intro hm
            obtain ⟨l, hl, e⟩ := List.mem_map.1 hm
            have := (i3 l hl).1
            omega
        · cases h
      · split at h
        · simp only [Option.some.injEq, Prod.mk.injEq] at h
          obtain ⟨rfl, rfl, rfl⟩ := h
          refine ⟨?_, i4⟩
          intro l hl
          obtain ⟨q1, q2, q3⟩ := i3 l hl
          exact ⟨by omega, by simp; omega, q3⟩
        · cases h
/-- where lent places lie -/
def KeyIn (p q k : Nat) : Prop := (p ≤ k ∧ k < q) ∨ (1000000 + 64 * p ≤ k ∧ k < 1000000 + 64 * q)
theorem args_lend {lend : List Nat} : ∀ {vals : List V} {p : Nat} {as : List V} {ls : List (Nat × Nat × Ob)} {b : List Nat}, args o lend p vals = some (as, ls, b) → p + vals.length ≤ 1000 →
    as.length = vals.length ∧ (∀ l ∈ ls, KeyIn p (p + vals.length) l.1 ∧ LendOk o l) ∧ (ls.map (·.1)).Nodup
  | [], p, as, ls, b, h, _ => by
    simp [args] at h
    obtain ⟨rfl, rfl, rfl⟩ := h
    exact ⟨rfl, fun l hl => by simp at hl, by simp⟩
  | v :: vals, p, as, ls, b, h, hp => by
    simp only [List.length_cons] at hp
    simp only [args] at h
    split at h
    · cases h
    · rename_i as' ls' b' hrest
      obtain ⟨i1, i3, i4⟩ := args_lend hrest (by omega)
      have up : ∀ k, KeyIn (p + 1) (p + 1 + vals.length) k → KeyIn p (p + (v :: vals).length) k := by
        intro k hk
        simp only [KeyIn, List.length_cons] at hk ⊢
        omega
      split at h
      · split at h
        · rename_i v' id ob hlo
          simp only [Option.some.injEq, Prod.mk.injEq] at h
          obtain ⟨rfl, rfl, rfl⟩ := h
          have k1 := lendOne_lend hlo
          refine ⟨by simp [i1], ?_, ?_⟩
          · intro l hl
            rcases List.mem_cons.1 hl with rfl | hl
            · exact ⟨.inl ⟨Nat.le_refl _, by simp⟩, k1⟩
            · obtain ⟨q1, q3⟩ := i3 l hl
              exact ⟨up _ q1, q3⟩
          · simp only [List.map_cons, List.nodup_cons]
            refine ⟨?_, i4⟩
            intro hm
            obtain ⟨l, hl, e⟩ := List.mem_map.1 hm
            have := (i3 l hl).1
            simp only [KeyIn] at this
            omega
        · cases h
      · split at h
        · split at h
          · rename_i ts
            split at h
            · rename_i h64
              split at h
              · rename_i ts' ls1 b1 hcells
                simp only [Option.some.injEq, Prod.mk.injEq] at h
                obtain ⟨rfl, rfl, rfl⟩ := h
                obtain ⟨j3, j4⟩ := lendL_lend hcells
                refine ⟨by simp [i1], ?_, ?_⟩
                · intro l hl
                  rcases List.mem_append.1 hl with hl | hl
                  · obtain ⟨q1, q2, q3⟩ := j3 l hl
                    exact ⟨.inr ⟨q1, by simp only [List.length_cons]; omega⟩, q3⟩
                  · obtain ⟨q1, q3⟩ := i3 l hl
                    exact ⟨up _ q1, q3⟩
                · rw [List.map_append, List.nodup_append]
                  refine ⟨j4, i4, ?_⟩
                  intro x hx y hy e
                  obtain ⟨l, hl, e1⟩ := List.mem_map.1 hx
                  obtain ⟨l', hl', e2⟩ := List.mem_map.1 hy
                  have q1 := (j3 l hl).1
                  have q2 := (j3 l hl).2.1
                  have q3 := (i3 l' hl').1
                  simp only [KeyIn] at q3
                  omega
              · cases h
            · cases h
          · cases h
        · split at h
          · rename_i v' hv'
            simp only [Option.some.injEq, Prod.mk.injEq] at h
            obtain ⟨rfl, rfl, rfl⟩ := h
            refine ⟨by simp [i1], ?_, i4⟩
            intro l hl
            obtain ⟨q1, q3⟩ := i3 l hl
            exact ⟨up _ q1, q3⟩
          · cases h
theorem moves_of {X Y : Cx} (hF : Y.F = X.F) (hc : ∀ ad v, ¬ X.U ad.block → X.w.cell? ad = some v → Y.w.cell? ad = some v ∧ ¬ Y.U ad.block) : Moves X Y := fun _ _ k h => h.cmono hF hc k
def lentOf (ls : List (Nat × Nat × Ob)) : List (Nat × Ob) := ls.map fun l => (l.1, l.2.2)
def E0of (E : Nat → Option Loc) (o : List (Nat × Ob)) (ls : List (Nat × Nat × Ob)) (v : Nat) : Option Loc :=
  match get (ls.map fun l => (l.1, l.2.1)) v with
  | some id => (match get o id with | some b => E b.ver | none => none)
  | none => none
def LB (E : Nat → Option Loc) (o : List (Nat × Ob)) (ls : List (Nat × Nat × Ob)) (bk : Nat) : Prop := ∃ l ∈ ls, BlkOf E o l.2.1 bk
theorem get_map_ls {α : Type} {ls : List (Nat × Nat × Ob)} (hn : (ls.map (·.1)).Nodup) (g : Nat × Nat × Ob → α) {l : Nat × Nat × Ob} (hl : l ∈ ls) : get (ls.map fun l => (l.1, g l)) l.1 = some (g l) :=
  get_of_nodup (by rw [List.map_map]; exact hn) (List.mem_map.2 ⟨l, hl, rfl⟩)
theorem get_map_inv {α : Type} {ls : List (Nat × Nat × Ob)} (g : Nat × Nat × Ob → α) {p : Nat} {x : α} (h : get (ls.map fun l => (l.1, g l)) p = some x) : ∃ l ∈ ls, l.1 = p ∧ g l = x := by
  obtain ⟨l, hl, e⟩ := List.mem_map.1 (get_mem h)
  cases e
  exact ⟨l, hl, rfl, rfl⟩
section
variable {ls : List (Nat × Nat × Ob)} (hk : (ls.map (·.1)).Nodup) (hlo : ∀ l ∈ ls, LendOk o l)
include hk hlo
omit hlo in
theorem E0_eq {l : Nat × Nat × Ob} (hl : l ∈ ls) {b : Ob} (hg : get o l.2.1 = some b) : E0of E o ls l.1 = E b.ver := by
  simp only [E0of, get_map_ls hk (fun l => l.2.1) hl, hg]
theorem lentB_iff (bk : Nat) : LentB (lentOf ls) (E0of E o ls) bk ↔ LB E o ls bk := by
  constructor
  · rintro ⟨p, ob, cap, sz, h1, h2⟩
    obtain ⟨l, hl, rfl, rfl⟩ := get_map_inv (fun l => l.2.2) h1
    obtain ⟨b, hg, _, hver, _⟩ := hlo l hl
    rw [hver, E0_eq hk hl hg] at h2
    exact ⟨l, hl, b, cap, sz, hg, h2⟩
  · rintro ⟨l, hl, b, cap, sz, hg, hE⟩
    obtain ⟨b', hg', _, hver, _⟩ := hlo l hl
    exact ⟨l.1, l.2.2, cap, sz, get_map_ls hk (fun l => l.2.2) hl, by rw [hver, E0_eq hk hl hg]; exact hE⟩
omit hk in
theorem LB_U {bk : Nat} (h : LB E o ls bk) : (cx F Pr E o w).U bk := by
  obtain ⟨l, hl, b, cap, sz, hg, hE⟩ := h
  obtain ⟨b', hg', hw, _⟩ := hlo l hl
  rw [hg] at hg'; cases hg'
  exact .inl ⟨_, b, cap, sz, hg, hw, hE⟩
end
theorem U_lt (R : Rel F Pr w0 lb N E n t o a w) {bk : Nat} (h : (cx F Pr E o w).U bk) : bk < w.heap.size := by
  rcases h with ⟨id, ob, cap, sz, g1, _, g3⟩ | hpr
  · exact (R.place id ob bk cap sz g1 g3).1
  · exact Nat.lt_of_lt_of_le (R.pr.1 bk hpr).1 R.size
theorem call_ok (R : Rel F Pr w0 lb N E n t o a w) {nn : Nat} {n' : Nat → Prop} (hn : Fr n nn n') {cf : CallF} (hcf : CallOk P F cf) {f : Nat} {vals : List V} {lend : List Nat} {thaw : List (Nat × Nat)} (hth : ∀ p ∈ thaw, p.1 < 15)
    {xs : Array Value} (hx : vals.length = xs.size) (hr : ∀ (i : Nat) (v : V) (x : Value), vals[i]? = some v → xs[i]? = some x → RepV (cx F Pr E o w) v x) {v : V} {ups : List (Nat × Ob)}
    (h : doCall cf nn o f vals lend thaw = some (v, ups)) : okFn P F f = true ∧ Calls P (F f) xs w fun e w' => ∃ val E', e = .returned val ∧ Rel F Pr w0 lb N E' n' t (ups ++ o) a w' ∧ RepV (cx F Pr E' (ups ++ o) w') v val := by
  unfold doCall at h
  split at h
  · cases h
  rename_i as ls B hargs
  split at h
  rotate_left
  · cases h
  rename_i hcond
  obtain ⟨h1000, hdisj, hnd⟩ := hcond
  split at h
  · cases h
  rename_i res after hres
  split at h
  rotate_left
  · cases h
  rename_i ups1 v' ups2 hlb hbk
  split at h
  rotate_left
  · cases h
  rename_i hflat
  simp only [Option.some.injEq, Prod.mk.injEq] at h
  obtain ⟨rfl, rfl⟩ := h
  obtain ⟨hlen, hls, hk⟩ := args_lend hargs (by omega)
  have hlo : ∀ l ∈ ls, LendOk o l := fun l hl => (hls l hl).2
  obtain ⟨hokf, hcalls⟩ := hcf f as (lentOf ls) res after hres
  refine ⟨hokf, ?_⟩
  -- the callee's context
  let Pr' : Nat → Prop := fun bk => (cx F Pr E o w).U bk ∧ ¬ LB E o ls bk ∧ ∀ id ∈ B, ¬ BlkOf E o id bk
  have hX0 : ∀ bk, (cx F Pr' (E0of E o ls) (lentOf ls) w).U bk → LB E o ls bk ∨ Pr' bk := by
    rintro bk (⟨id, ob, cap, sz, g1, _, g3⟩ | hpr)
    · exact .inl ((lentB_iff hk hlo bk).1 ⟨id, ob, cap, sz, g1, g3⟩)
    · exact .inr hpr
  have hBL : ∀ id ∈ B, ∀ l ∈ ls, l.2.1 ≠ id := by
    intro id hid l hl e
    simp only [List.all_eq_true] at hdisj
    have := hdisj l.2.1 (List.mem_map.2 ⟨l, hl, rfl⟩)
    rw [e] at this
    simp at this
    exact this hid
  have D : Reads F Pr E o w B (cx F Pr' (E0of E o ls) (lentOf ls) w) := by
    refine ⟨rfl, rfl, ?_, ?_⟩
    · intro bk hu h
      rcases hX0 bk h with h | h
      · exact hu (LB_U hlo h)
      · exact hu h.1
    · intro id hid bk hb h
      rcases hX0 bk h with h | h
      · obtain ⟨l, hl, ob', cap', sz', q1, q2⟩ := h
        obtain ⟨ob, cap, sz, q3, q4⟩ := hb
        exact hBL id hid l hl (R.dist _ _ ob' ob bk cap' sz' cap sz q1 q3 q2 q4)
      · exact h.2.2 id hid hb
  have hE0 : ∀ l ∈ ls, ∀ ob, get o l.2.1 = some ob → (cx F Pr' (E0of E o ls) (lentOf ls) w).E l.1 = E ob.ver := fun l hl ob hg => E0_eq hk hl hg
  obtain ⟨_, hargsR⟩ := args_ok R D (xs := xs.toList) hargs (by simpa using hx) (fun i v x h1 h2 => hr i v x h1 (by simpa using h2)) (fun id h => h) hE0
  have entry : Entry F Pr' (E0of E o ls) as (lentOf ls) xs w := by
    refine ⟨by rw [hlen]; exact hx, fun i v x h1 h2 => hargsR i v x h1 (by simpa using h2), ?_, ?_, ?_, ?_, ?_⟩
    · intro p ob hg
      obtain ⟨l, hl, rfl, rfl⟩ := get_map_inv (fun l => l.2.2) hg
      obtain ⟨b, loc, k1, k2, k3⟩ := lend_rep R D (hlo l hl)
      obtain ⟨b', g1, g2, g3, g4, g5, _⟩ := hlo l hl
      have := (hls l hl).1
      simp only [KeyIn] at this
      exact ⟨g3, ⟨by simp only [lentId, Bool.or_eq_true, decide_eq_true_eq]; omega, by omega⟩, g5, loc, by rw [E0_eq hk hl k1]; exact k2, k3⟩
    · intro p ob bk cap sz hg hE
      obtain ⟨l, hl, b, c, s, k1, k2⟩ := (lentB_iff hk hlo bk).1 ⟨p, ob, cap, sz, hg, hE⟩
      exact (R.place _ b bk c s k1 k2).1
    · intro p p' ob ob' bk cap sz cap' sz' hg hg' hE hE'
      obtain ⟨l, hl, rfl, rfl⟩ := get_map_inv (fun l => l.2.2) hg
      obtain ⟨l', hl', rfl, rfl⟩ := get_map_inv (fun l => l.2.2) hg'
      obtain ⟨b, g1, _, g3, _⟩ := hlo l hl
      obtain ⟨b', g1', _, g3', _⟩ := hlo l' hl'
      rw [g3, E0_eq hk hl g1] at hE
      rw [g3', E0_eq hk hl' g1'] at hE'
      have := R.dist _ _ b b' bk cap sz cap' sz' g1 g1' hE hE'
      rw [inj_of_nodup (f := fun l => l.2.1) hnd hl hl' this]
    · intro ver l hE
      unfold E0of at hE
      split at hE
      · rename_i id hid
        obtain ⟨l, hl, rfl, _⟩ := get_map_inv (fun l => l.2.1) hid
        have := (hls l hl).1
        simp only [KeyIn] at this
        omega
      · cases hE
    · refine ⟨fun bk hb => ⟨U_lt R hb.1, fun q => hb.2.1 ((lentB_iff hk hlo bk).1 q)⟩, ?_⟩
      rcases R.pr.2 with g0 | ⟨g1, g2, m, g3⟩
      · exact .inl g0
      · refine .inr ⟨Nat.lt_of_lt_of_le g1 R.size, fun q => ?_, m, by rw [cell_same (R.frame _ g1 g2)]; exact g3⟩
        obtain ⟨l, hl, b, c, s, k1, k2⟩ := (lentB_iff hk hlo _).1 q
        rcases (R.place _ b _ c s k1 k2).2 with z | z
        · exact absurd g1 (Nat.not_lt.2 z)
        · exact g2 z
  refine (hcalls Pr' (E0of E o ls) xs w entry).mono ?_
  rintro e w' ⟨val, E', own, rfl, Bk⟩
  -- back at the caller
  let E2 : Nat → Option Loc := fun v => if v = nn + 15 then some .nil else if nn ≤ v ∧ v < nn + 16 then (get thaw (v - nn)).bind (fun _ => own (v - nn)) else E v
  refine ⟨val, E2, rfl, ?_⟩
  have hEold : ∀ ver l, E ver = some l → E2 ver = some l := by
    intro ver l h
    have hne : ¬ (nn ≤ ver ∧ ver < nn + 16) := fun q => hn.new ver q.1 q.2 (R.fresh ver l h)
    simp only [E2]; rw [if_neg (by omega), if_neg hne]; exact h
  have hEobj : ∀ id ob, get o id = some ob → E2 ob.ver = E ob.ver := by
    intro id ob h
    have hne : ¬ (nn ≤ ob.ver ∧ ob.ver < nn + 16) := fun q => hn.new ob.ver q.1 q.2 (R.objs id ob h).1
    simp only [E2]; rw [if_neg (by omega), if_neg hne]
  have hEown : ∀ q id, get thaw q = some id → E2 (nn + q) = own q := by
    intro q id h
    have hq16 := hth _ (get_mem h)
    simp only at hq16
    simp only [E2]; rw [if_neg (by omega), if_pos (by omega), show nn + q - nn = q from by omega, h]; rfl
  have hE15 : E2 (nn + 15) = some .nil := if_pos rfl
  obtain ⟨hlb1, hlb2⟩ := lentBack_ok hlb
  have hcls : ∀ id ob2, get ((ups1 ++ ups2) ++ o) id = some ob2 → get ups1 id = some ob2 ∨ (get ups2 id = some ob2) ∨ (get o id = some ob2 ∧ ∀ l ∈ ls, l.2.1 ≠ id) := by
    intro id ob2 hg
    rw [get_append, get_append] at hg
    cases h1 : get ups1 id with
    | some x => rw [h1] at hg; simp at hg; exact .inl (by rw [hg])
    | none =>
      cases h2 : get ups2 id with
      | some x => rw [h1, h2] at hg; simp at hg; exact .inr (.inl (by rw [hg]))
      | none =>
        rw [h1, h2] at hg
        simp at hg
        refine .inr (.inr ⟨hg, fun l hl e => ?_⟩)
        obtain ⟨ob, hob⟩ := hlb2 l hl
        rw [e, h1] at hob; cases hob
  -- the results
  have hlent : ∀ l ∈ ls, get (lentOf ls) l.1 = some l.2.2 := fun l hl => get_map_ls hk (fun l => l.2.2) hl
  have hNotL : ∀ id ob bk cap sz, get o id = some ob → E ob.ver = some (.blk bk cap sz) → (∀ l ∈ ls, l.2.1 ≠ id) → ¬ LB E o ls bk := by
    rintro id ob bk cap sz h1 h2 h3 ⟨l, hl, ob', cap', sz', q1, q2⟩
    exact h3 l hl (R.dist _ _ ob' ob bk cap' sz' cap sz q1 h1 q2 h2)
  have hLBlt : ∀ bk, LB E o ls bk → bk < w.heap.size := fun bk h => U_lt (Pr := Pr) R (LB_U hlo h)
  let LBk : Nat → Prop := fun bk => ∃ l ∈ ls, get after l.1 ≠ none ∧ BlkOf E o l.2.1 bk
  have hLBk : ∀ bk, LBk bk → LB E o ls bk := fun bk ⟨l, hl, _, h⟩ => ⟨l, hl, h⟩
  have hpre : ∀ (T2 : List (Nat × Ob)), (∀ u ∈ T2, ∃ q l, get thaw q = some u.1 ∧ own q = some l ∧ u.2.ver = nn + q) → (∀ id ob2, get ((ups1 ++ T2) ++ o) id = some ob2 → get ups1 id = some ob2 ∨ (get T2 id = some ob2) ∨ (get o id = some ob2 ∧ ∀ l ∈ ls, l.2.1 ≠ id)) →
      ∀ bk, (cx F Pr E2 ((ups1 ++ T2) ++ o) w').U bk → LBk bk ∨ (∃ q cap sz id, get thaw q = some id ∧ own q = some (.blk bk cap sz)) ∨ ((cx F Pr E o w).U bk ∧ ¬ LB E o ls bk) := by
    rintro T2 hT hc bk (⟨id, ob, cap, sz, g1, g2, g3⟩ | hpr)
    · rcases hc id ob g1 with h | h | ⟨h, h'⟩
      · obtain ⟨l, hl, b, e1, e3, e4⟩ := hlb1 (id, ob) (get_mem h)
        simp only at e1 e3 e4
        cases e2 : get after l.1 with
        | none =>
          rw [e2] at e4; subst e4
          simp only [backOb] at g3
          rw [hE15] at g3; cases g3
        | some b' =>
          rw [e2] at e4; subst e4
          refine .inl ⟨l, hl, by rw [e2]; simp, b, cap, sz, by rw [e1]; exact e3, ?_⟩
          rw [← hEobj id b e3]; exact g3
      · obtain ⟨q, l, e1, e2, e3⟩ := hT (id, ob) (get_mem h)
        simp only at e1 e3
        rw [e3, hEown q id e1] at g3
        exact .inr (.inl ⟨q, cap, sz, id, e1, g3⟩)
      · rw [hEobj id ob h] at g3
        exact .inr (.inr ⟨.inl ⟨id, ob, cap, sz, h, g2, g3⟩, hNotL id ob bk cap sz h g3 h'⟩)
    · refine .inr (.inr ⟨.inr hpr, ?_⟩)
      rintro ⟨l, hl, ob', cap', sz', q1, q2⟩
      have h1 := R.pr.1 bk hpr
      rcases (R.place _ ob' bk cap' sz' q1 q2).2 with q | q
      · omega
      · exact h1.2 q
  have hhl : ∀ Y : Cx, Y.E = E2 → ∀ p id ver, get (ls.map fun l => (l.1, l.2.1, (get o l.2.1).elim 0 (·.ver))) p = some (id, ver) → ∃ ob, get (lentOf ls) p = some ob ∧ ∀ l, (rx F Pr' (E0of E o ls) (lentOf ls) E' own w').E p = some l → Y.E ver = some l := by
    intro Y hY p id ver hg
    obtain ⟨l, hl, rfl, e⟩ := get_map_inv (fun l => (l.2.1, (get o l.2.1).elim 0 (·.ver))) hg
    obtain ⟨b, g1, _⟩ := hlo l hl
    simp only [g1, Option.elim_some, Prod.mk.injEq] at e
    obtain ⟨rfl, rfl⟩ := e
    refine ⟨_, hlent l hl, fun loc hloc => ?_⟩
    obtain ⟨_, loc', h1, _⟩ := R.objs _ b g1
    have h2 := Bk.ext l.1 loc' (by rw [E0_eq hk hl g1]; exact h1)
    rw [show (rx F Pr' (E0of E o ls) (lentOf ls) E' own w').E = E' from rfl, h2] at hloc
    cases hloc
    rw [hY]; exact hEold _ _ h1
  have hfl : Moves (rx F Pr' (E0of E o ls) (lentOf ls) E' own w') { w := w', U := fun _ => False, E := E2, F := F } ∨ (!B.isEmpty) = true :=
    .inl (moves_of (by rfl) (fun ad v _ hcell => ⟨hcell, fun h => h⟩))
  have hfl2 : (!B.isEmpty) = true → res.flat = true := by
    intro hb
    rcases hflat with q | q
    · rw [q] at hb; cases hb
    · exact q.1
  have hthaw := (back_ok (X := rx F Pr' (E0of E o ls) (lentOf ls) E' own w') (Y := { w := w', U := fun _ => False, E := E2, F := F }) (own := own) (lent := lentOf ls) ⟨rfl, fun q id h => hEown q id h, fun _ _ _ _ _ _ h => h, hhl _ rfl⟩ hfl hfl2 hbk Bk.res).2
  have hU := hpre ups2 (fun u hu => by obtain ⟨q, l, h1, h2, h3, _⟩ := hthaw u hu; exact ⟨q, l, h1, h2, h3⟩) hcls
  have hLX : ∀ bk, LB E o ls bk → (rx F Pr' (E0of E o ls) (lentOf ls) E' own w').U bk := fun bk h => .inl ((lentB_iff hk hlo bk).2 h)
  have hmv : Moves (rx F Pr' (E0of E o ls) (lentOf ls) E' own w') (cx F Pr E2 ((ups1 ++ ups2) ++ o) w') ∨ (!B.isEmpty) = true := by
    cases hB : B with
    | cons x xs => exact .inr rfl
    | nil =>
      refine .inl (moves_of (by rfl) (fun ad v hu hcell => ⟨hcell, fun h => hu ?_⟩))
      rcases hU _ h with h | ⟨q, cap, sz, id, _, h⟩ | ⟨h1, h2⟩
      · exact hLX _ (hLBk _ h)
      · exact .inr (.inr ⟨q, cap, sz, h⟩)
      · exact .inr (.inl ⟨h1, h2, by rw [hB]; intro id hid; simp at hid⟩)
  have hgone : ∀ b, (∃ p ob cap' sz', get (lentOf ls) p = some ob ∧ get after p = none ∧ E0of E o ls ob.ver = some (.blk b cap' sz')) → ∃ l ∈ ls, get after l.1 = none ∧ BlkOf E o l.2.1 b := by
    rintro b ⟨p, ob, cap', sz', h1, h2, h3⟩
    obtain ⟨l, hl, rfl, rfl⟩ := get_map_inv (fun l => l.2.2) h1
    obtain ⟨b', hg', _, hver, _⟩ := hlo l hl
    rw [hver, E0_eq hk hl hg'] at h3
    exact ⟨l, hl, h2, b', cap', sz', hg', h3⟩
  have H : Home (rx F Pr' (E0of E o ls) (lentOf ls) E' own w') (cx F Pr E2 ((ups1 ++ ups2) ++ o) w') own (lentOf ls) nn (ls.map fun l => (l.1, l.2.1, (get o l.2.1).elim 0 (·.ver))) thaw := by
    refine ⟨rfl, fun q id h => hEown q id h, ?_, hhl _ rfl⟩
    intro q b cap sz hq hown h
    have hge := (Bk.fresh q b cap sz hown).1
    rcases hU _ h with h | ⟨q', cap', sz', id, h1, h2⟩ | ⟨h1, h3⟩
    · rcases hge with hge | hge
      · have := hLBlt b (hLBk b h); omega
      · obtain ⟨l0, hl0, h0, hb0⟩ := hgone b hge
        obtain ⟨l, hl, ha, hb⟩ := h
        obtain ⟨ob1, c1, s1, x1, y1⟩ := hb
        obtain ⟨ob2, c2, s2, x2, y2⟩ := hb0
        have := R.dist _ _ ob1 ob2 b c1 s1 c2 s2 x1 x2 y1 y2
        have := inj_of_nodup (f := fun l => l.2.1) hnd hl hl0 this
        rw [this] at ha; exact ha h0
    · have := Bk.dist q q' b cap sz cap' sz' hown h2
      subst this; rw [hq] at h1; cases h1
    · rcases hge with hge | hge
      · have := U_lt R h1; omega
      · obtain ⟨l0, hl0, h0, hb0⟩ := hgone b hge
        exact h3 ⟨l0, hl0, hb0⟩
  refine ⟨?_, (back_ok H hmv hfl2 hbk Bk.res).1⟩
  have hframe : ∀ bk, bk < w.heap.size → ¬ LB E o ls bk → w'.heap[bk]? = w.heap[bk]? := fun bk h1 h2 => Bk.frame bk h1 fun h => h2 ((lentB_iff hk hlo bk).1 h)
  have K : Keeps (cx F Pr E o w) (cx F Pr E2 ((ups1 ++ ups2) ++ o) w') := by
    refine ⟨rfl, hEold, fun ad v hu hc => ?_⟩
    have hlt : ad.block < w.heap.size := cell_lt hc
    refine ⟨(cell_of_heap (hframe _ hlt fun h => hu (LB_U hlo h))).trans hc, fun h => ?_⟩
    rcases hU _ h with h | ⟨q, cap, sz, id, _, h⟩ | ⟨h1, h2⟩
    · exact hu (LB_U hlo (hLBk _ h))
    · rcases (Bk.fresh q _ cap sz h).1 with z | z
      · omega
      · obtain ⟨l0, hl0, _, hb0⟩ := hgone _ z
        exact hu (LB_U hlo ⟨l0, hl0, hb0⟩)
    · exact hu h1
  have hplace : ∀ id ob bk cap sz, get ((ups1 ++ ups2) ++ o) id = some ob → E2 ob.ver = some (.blk bk cap sz) → (∃ b, get o id = some b ∧ b.ver = ob.ver ∧ E b.ver = some (.blk bk cap sz)) ∨ ∃ q, get thaw q = some id ∧ ob.ver = nn + q ∧ own q = some (.blk bk cap sz) := by
    intro id ob bk cap sz hg hE
    rcases hcls id ob hg with h | h | ⟨h, _⟩
    · obtain ⟨l, hl, b, e1, e3, e4⟩ := hlb1 (id, ob) (get_mem h)
      simp only at e1 e3 e4
      cases e2 : get after l.1 with
      | none =>
        rw [e2] at e4; subst e4
        simp only [backOb] at hE
        rw [hE15] at hE; cases hE
      | some b' =>
        rw [e2] at e4; subst e4
        exact .inl ⟨b, e3, rfl, by rw [← hEobj id b e3]; exact hE⟩
    · obtain ⟨q, l, h1, h2, h3, _⟩ := hthaw (id, ob) (get_mem h)
      simp only at h1 h3
      rw [h3, hEown q id h1] at hE
      exact .inr ⟨q, h1, h3, hE⟩
    · exact .inl ⟨ob, h, rfl, by rw [← hEobj id ob h]; exact hE⟩
  have hdead : ∀ bk, (∃ p ob cap' sz', get (lentOf ls) p = some ob ∧ get after p = none ∧ E0of E o ls ob.ver = some (.blk bk cap' sz')) → ∀ id ob b cap sz cap2 sz2, get ((ups1 ++ ups2) ++ o) id = some ob → E2 ob.ver = some (.blk bk cap sz) → get o id = some b → E b.ver = some (.blk bk cap2 sz2) → False := by
    intro bk hz id ob b cap sz cap2 sz2 hg hE h1 h3
    obtain ⟨l0, hl0, h0, ob2, c2, s2, x2, y2⟩ := hgone bk hz
    have hid := R.dist _ _ b ob2 bk cap2 sz2 c2 s2 h1 x2 h3 y2
    subst hid
    obtain ⟨x, hx⟩ := hlb2 l0 hl0
    rw [get_append, get_append, hx] at hg
    simp only [Option.some_or, Option.some.injEq] at hg
    subst hg
    obtain ⟨l, hl, b3, e1, e3, e4⟩ := hlb1 (l0.2.1, x) (get_mem hx)
    simp only at e1 e3 e4
    have := inj_of_nodup (f := fun l => l.2.1) hnd hl hl0 e1
    rw [this, h0] at e4
    subst e4
    simp only [backOb] at hE
    rw [hE15] at hE; cases hE
  refine ⟨Bk.os.trans R.os, Bk.tape.trans R.tape, Bk.output.trans R.output, Nat.le_trans R.size Bk.size, ?_, R.defers, R.nt, fun d v hv => (R.tmps d v hv).mono K, ?_, ?_, ?_, ?_, R.pr, fun v l h => hEold _ _ (R.ext v l h)⟩
  · intro bk h1 h2
    refine (hframe bk (Nat.lt_of_lt_of_le h1 R.size) ?_).trans (R.frame bk h1 h2)
    rintro ⟨l, hl, ob', cap', sz', q1, q2⟩
    rcases (R.place _ ob' bk cap' sz' q1 q2).2 with q | q
    · omega
    · exact h2 q
  · intro id ob hg
    rcases hcls id ob hg with h | h | ⟨h, hnl⟩
    · obtain ⟨l, hl, b, e1, e3, e4⟩ := hlb1 (id, ob) (get_mem h)
      simp only at e1 e3 e4
      cases e2 : get after l.1 with
      | none =>
        rw [e2] at e4; subst e4
        exact ⟨hn.add _ (by simp only [backOb]; omega) (by simp only [backOb]; omega), .nil, hE15, rfl, rfl⟩
      | some b' =>
      rw [e2] at e4
      simp only [backOb] at e4
      obtain ⟨hver, loc, hloc, _⟩ := R.objs id b e3
      obtain ⟨b2, g1, g2, g3, g4, g5, g6, _⟩ := hlo l hl
      rw [e1, e3] at g1; cases g1
      obtain ⟨k1, k2⟩ := Bk.objs l.1 l.2.2 b' loc (hlent l hl) e2 (by rw [E0_eq hk hl (by rw [e1]; exact e3)]; exact hloc)
      subst e4
      refine ⟨hn.old _ hver, loc, hEold _ _ hloc, ?_⟩
      cases loc with
      | nil => exact ⟨k1.1, by have := k1.2; simp only at this ⊢; rw [← g6]; exact this⟩
      | blk bk cap sz =>
        refine ⟨by have := k1.1; simp only at this ⊢; rw [← g4]; exact this, k1.2.move rfl rfl (by simp only; exact g4.symm) (fun _ => k2) fun i j r t v hi ht hv => ?_⟩
        rcases hmv with q | q
        · exact q _ _ (k2 i j r t hi ht) hv
        · rcases hflat with q' | q'
          · rw [q'] at q; cases q
          · have hall := q'.2
            simp only [List.all_eq_true (l := ups1)] at hall
            exact hv.scalar (all_scalar (hall _ (get_mem h)) hi ht)
    · obtain ⟨q, l, h1, h2, h3, h4, h5, h6, h7⟩ := hthaw (id, ob) (get_mem h)
      simp only at h1 h3 h4 h5 h6 h7
      have hq16 := hth _ (get_mem h1)
      simp only at hq16
      refine ⟨by rw [h3]; exact hn.add _ (by omega) (by omega), l, by rw [h3, hEown q id h1]; exact h2, ?_⟩
      cases l with
      | nil => exact h6
      | blk bk cap sz =>
        refine ⟨h6.1, h6.2.move rfl rfl rfl h6.2.cl fun i j r t v hi ht hv => ?_⟩
        rcases hmv with q | q
        · exact q _ _ (h5 i j r t hi ht) hv
        · exact hv.scalar (all_scalar (h7 q) hi ht)
    · obtain ⟨hver, loc, hloc, hrl⟩ := R.objs id ob h
      refine ⟨hn.old _ hver, loc, hEold _ _ hloc, ?_⟩
      cases loc with
      | nil => exact hrl
      | blk bk cap sz => exact ⟨hrl.1, hrl.2.mono K (hframe bk (R.place id ob bk cap sz h hloc).1 (hNotL id ob bk cap sz h hloc hnl))⟩
  · intro id ob bk cap sz hg hE
    rcases hplace id ob bk cap sz hg hE with ⟨b, h1, h2, h3⟩ | ⟨q, h1, h2, h3⟩
    · obtain ⟨q1, q2⟩ := R.place id b bk cap sz h1 h3
      exact ⟨Nat.lt_of_lt_of_le q1 Bk.size, q2⟩
    · obtain ⟨q1, q2⟩ := Bk.fresh q bk cap sz h3
      refine ⟨q2, ?_⟩
      rcases q1 with q1 | q1
      · exact .inl (Nat.le_trans R.size q1)
      · obtain ⟨l0, hl0, _, ob2, c2, s2, x2, y2⟩ := hgone bk q1
        exact (R.place _ ob2 bk c2 s2 x2 y2).2
  · intro id id' ob ob' bk cap sz cap' sz' hg hg' hE hE'
    rcases hplace id ob bk cap sz hg hE with ⟨b, h1, h2, h3⟩ | ⟨q, h1, h2, h3⟩ <;> rcases hplace id' ob' bk cap' sz' hg' hE' with ⟨b', h1', h2', h3'⟩ | ⟨q', h1', h2', h3'⟩
    · exact R.dist id id' b b' bk cap sz cap' sz' h1 h1' h3 h3'
    · have q1 := (R.place id b bk cap sz h1 h3).1
      rcases (Bk.fresh q' bk cap' sz' h3').1 with q2 | q2
      · omega
      · exact (hdead bk q2 id ob b cap sz cap sz hg hE h1 h3).elim
    · have q1 := (R.place id' b' bk cap' sz' h1' h3').1
      rcases (Bk.fresh q bk cap sz h3).1 with q2 | q2
      · omega
      · exact (hdead bk q2 id' ob' b' cap' sz' cap' sz' hg' hE' h1' h3').elim
    · have := Bk.dist q q' bk cap sz cap' sz' h3 h3'
      subst this
      rw [h1] at h1'; exact Option.some.inj h1'
  · intro ver l hE
    simp only [E2] at hE
    split at hE
    · rename_i hr; exact hn.add _ (by omega) (by omega)
    · split at hE
      · rename_i hr; exact hn.add _ hr.1 hr.2
      · exact hn.old _ (R.fresh ver l hE)
end Mx

namespace Mx
open Go
variable {P : Program} {F : Nat → FuncId} {Pr : Nat → Prop} {w0 : World} {lb : Lb} {N : Nat} {E : Nat → Option Loc} {n : Nat → Prop} {t : List (Nat × V)} {o : List (Nat × Ob)} {a : Act} {w : World}
def thawOk : MO → Bool
  | .call _ _ _ thaw => thaw.all fun p => decide (p.1 < 15)
  | _ => true
def okAct (P : Program) (F : Nat → FuncId) : MO → Op → Bool
  | .eqs neg ks x y, op => okEq P F neg ks x y op
  | m, .call c => okC P F m c && thawOk m
  | m, op => okOp P F m op
def okGuard (ops : Array Oper) : Option (Nat × Bool) → Option (Nat × Bool) → Bool
  | none, none => true
  | some (g, b), some (j, b') => b == b' && ((ops[j]?).bind (·.dst) == some g)
  | _, _ => false
def okMop (P : Program) (F : Nat → FuncId) (N : Nat) (ops : Array Oper) (m : Mop) (x : Oper) : Bool :=
  (m.dst == x.dst) && (match x.dst with | some d => decide (d < N) | none => true) && okGuard ops m.guard x.guard && okAct P F m.op x.op
theorem wp_of_did {n' : Nat → Prop} {oper : Oper} {v : V} {ups : List (Nat × Ob)} (h : Did P F Pr w0 lb N n' t o a w oper v ups) {next : Act → World → Prop} {Q : Exit → Act → World → Prop}
    (hnext : ∀ E' val w', Rel F Pr w0 lb N E' n' t (ups ++ o) a w' → RepV (cx F Pr E' (ups ++ o) w') v val → next (a.put oper.dst val) w') : oper.wp P a w next Q := by
  obtain ⟨val, w', E', hran, R, hv⟩ := h
  have := hnext E' val w' R hv
  unfold Oper.wp
  rcases hran with h | ⟨h, rfl⟩
  · rw [h]; exact this
  · rw [h]; exact this
theorem wp_of_calls (f : FuncId) (xs : Array Value) {n' : Nat → Prop} {oper : Oper} {v : V} {ups : List (Nat × Ob)} (he : (execOp a.eval oper).run P w = .ok (.enter f xs) w)
    (h : Calls P f xs w fun e w' => ∃ val E', e = .returned val ∧ Rel F Pr w0 lb N E' n' t (ups ++ o) a w' ∧ RepV (cx F Pr E' (ups ++ o) w') v val) {next : Act → World → Prop} {Q : Exit → Act → World → Prop}
    (hnext : ∀ E' val w', Rel F Pr w0 lb N E' n' t (ups ++ o) a w' → RepV (cx F Pr E' (ups ++ o) w') v val → next (a.put oper.dst val) w') : oper.wp P a w next Q := by
  unfold Oper.wp
  rw [he, Oper.upon_enter]
  refine h.mono ?_
  rintro e w' ⟨val, E', rfl, R, hv⟩
  exact hnext E' val w' R hv
theorem okFn_run {f : Nat} (h : okFn P F f = true) (xs : Array Value) (w : World) : (callFunc (F f) xs).run P w = .ok (.enter (F f) xs) w := by
  unfold okFn at h
  split at h
  · rename_i fn hfn
    simp only [Bool.and_eq_true, bne_iff_ne, ne_eq, Option.isSome_iff_exists] at h
    obtain ⟨h1, b, hb⟩ := h
    simp [callFunc, hfn, h1, hb]
  · cases h
theorem mapO_look (R : Rel F Pr w0 lb N E n t o a w) : ∀ {xs : List O} {ys : List Operand} {vs : List V}, okOs F xs ys = true → mapO (look t) xs = some vs →
    vs.length = ys.length ∧ ∀ (i : Nat) (v : V) (x : Value), vs[i]? = some v → (ys.map a.eval)[i]? = some x → RepV (cx F Pr E o w) v x
  | [], [], vs, _, h => by simp [mapO] at h; subst h; exact ⟨rfl, fun i v x h => by simp at h⟩
  | x :: xs, y :: ys, vs, hok, h => by
    simp only [okOs, Bool.and_eq_true] at hok
    simp only [mapO] at h
    split at h
    · rename_i v vs' h1 h2
      cases h
      obtain ⟨i1, i2⟩ := mapO_look R hok.2 h2
      refine ⟨by simp [i1], fun i u z hu hz => ?_⟩
      cases i with
      | zero => simp at hu hz; subst hu hz; exact look_rep R hok.1 h1
      | succ i => exact i2 i u z (by simpa using hu) (by simpa using hz)
    · cases h
  | [], _ :: _, _, hok, _ => by simp [okOs] at hok
  | _ :: _, [], _, hok, _ => by simp [okOs] at hok
theorem okAct_op {m : MO} {op : Op} (h : okAct P F m op = true) (hne : ∀ c, op ≠ .call c) (hm : ∀ neg ks x y, m ≠ .eqs neg ks x y) : okOp P F m op = true := by
  unfold okAct at h
  split at h
  · exact (hm _ _ _ _ rfl).elim
  · exact (hne _ rfl).elim
  · exact h
theorem act_ok (R : Rel F Pr w0 lb N E n t o a w) {nn : Nat} {n' : Nat → Prop} (hn : Fr n nn n') {cf : CallF} (hcf : CallOk P F cf) {d : Nat} {m : MO} {oper : Oper} (hok : okAct P F m oper.op = true) {v : V} {ups : List (Nat × Ob)}
    (h : act cf nn d t o m = some (v, ups)) {next : Act → World → Prop} {Q : Exit → Act → World → Prop}
    (hnext : ∀ E' val w', Rel F Pr w0 lb N E' n' t (ups ++ o) a w' → RepV (cx F Pr E' (ups ++ o) w') v val → next (a.put oper.dst val) w') : oper.wp P a w next Q := by
  by_cases hc : ∃ c, oper.op = .call c
  · obtain ⟨c, hop⟩ := hc
    rw [hop] at hok
    cases m with
    | eqs neg ks x y => exact wp_of_did (act_eqs R hn (oper := oper) (by rw [hop]; exact hok) h) hnext
    | len x => simp only [okAct, Bool.and_eq_true] at hok; exact wp_of_did (act_len R hn hop hok.1 h) hnext
    | slen x => simp only [okAct, Bool.and_eq_true] at hok; exact wp_of_did (act_slen R hn hop hok.1 h) hnext
    | app sz bytes x y => simp only [okAct, Bool.and_eq_true] at hok; exact wp_of_did (act_app R hn hop hok.1 h) hnext
    | appi sz bytes x y => simp only [okAct, Bool.and_eq_true] at hok; exact wp_of_did (act_appi R hn hop hok.1 h) hnext
    | clr zero x => simp only [okAct, Bool.and_eq_true] at hok; exact wp_of_did (act_clr R hn hop hok.1 h) hnext
    | max x y => simp only [okAct, Bool.and_eq_true] at hok; exact wp_of_did (act_max R hn hop hok.1 h) hnext
    | min x y => simp only [okAct, Bool.and_eq_true] at hok; exact wp_of_did (act_min R hn hop hok.1 h) hnext
    | call f as lend thaw =>
      simp only [okAct, Bool.and_eq_true, thawOk, List.all_eq_true, decide_eq_true_eq] at hok
      obtain ⟨hok, hth⟩ := hok
      simp only [okC] at hok
      split at hok
      · simp [okB] at hok
      · rename_i g hg
        simp only [Bool.and_eq_true] at hok
        simp only [act] at h
        split at h
        · rename_i vals hvals
          obtain ⟨k1, k2⟩ := mapO_look R hok.2 hvals
          have hval : a.eval g = .func (.func (F f)) #[] #[] := by
            have := hok.1
            unfold okO at this
            split at this <;> first | (cases this; done) | skip
            all_goals simp_all [Act.eval]
          obtain ⟨hf, hcalls⟩ := call_ok R hn hcf (xs := c.args.map a.eval) hth (by simpa using k1) (fun i v x h1 h2 => k2 i v x h1 (by simpa using h2)) h
          refine wp_of_calls (F f) (c.args.map a.eval) ?_ hcalls hnext
          simp [execOp, hop, resolve, hg, hval, Deferred.ofValue, invoke, okFn_run hf]
        · cases h
      · cases hok
    | callv x as =>
      simp only [okAct, Bool.and_eq_true, thawOk, and_true] at hok
      simp only [okC] at hok
      split at hok
      · simp [okB] at hok
      · rename_i g hg
        simp only [Bool.and_eq_true] at hok
        simp only [act] at h
        split at h
        · rename_i f caps vals hx hvals
          obtain ⟨k1, k2⟩ := mapO_look R hok.2 hvals
          have hr := lookT_rep R hok.1 hx
          generalize hval : a.eval g = val at hr
          cases hr with
          | fn _ _ cs hn' hrep =>
            have hlen : vals.length = c.args.size := by simpa using k1
            obtain ⟨hf, hcalls⟩ := call_ok R hn hcf (xs := c.args.map a.eval ++ cs) (thaw := []) (by simp) (by simp [hlen, hn']) (fun i v x h1 h2 => by
              rw [List.getElem?_append] at h1
              rw [Array.getElem?_append] at h2
              simp only [Array.size_map, ← hlen] at h2
              split at h1
              · rename_i hi
                rw [if_pos hi] at h2
                exact k2 i v x h1 (by simpa using h2)
              · rename_i hi
                rw [if_neg hi] at h2
                rw [List.getElem?_map, Option.map_eq_some_iff] at h1
                obtain ⟨q, hq, rfl⟩ := h1
                exact .c _ _ (hrep _ q x hq h2)) h
            refine wp_of_calls (F f) (c.args.map a.eval ++ cs) ?_ hcalls hnext
            simp [execOp, hop, resolve, hg, hval, Deferred.ofValue, invoke]
            rw [show (cx F Pr E o w).F f = F f from rfl]
            simp [okFn_run hf]
        · cases h
      · cases hok
    | _ => 
      simp only [okAct, Bool.and_eq_true, okC] at hok
      exfalso
      obtain ⟨hok, _⟩ := hok
      revert hok
      split <;> simp [okB]
  · have hne : ∀ c, oper.op ≠ .call c := fun c e => hc ⟨c, e⟩
    have hop := fun hm => okAct_op hok hne hm
    cases m with
    | eqs neg ks x y => exact wp_of_did (act_eqs R hn (oper := oper) hok h) hnext
    | np => exact wp_of_did (act_np R hn (hop (by intros; exact MO.noConfusion)) h) hnext
    | mv x => exact wp_of_did (act_mv R hn (hop (by intros; exact MO.noConfusion)) h) hnext
    | nil z => exact wp_of_did (act_nil R hn (hop (by intros; exact MO.noConfusion)) h) hnext
    | pick c x y => exact wp_of_did (act_pick R hn (hop (by intros; exact MO.noConfusion)) h) hnext
    | alloc z => exact wp_of_did (act_alloc R hn (hop (by intros; exact MO.noConfusion)) h) hnext
    | box x => exact wp_of_did (act_box R hn (hop (by intros; exact MO.noConfusion)) h) hnext
    | build z ps => exact wp_of_did (act_build R hn (hop (by intros; exact MO.noConfusion)) h) hnext
    | bslice sz l z ps => exact wp_of_did (act_bslice R hn (hop (by intros; exact MO.noConfusion)) h) hnext
    | bslf sz l z ps => exact wp_of_did (act_bslf R hn (hop (by intros; exact MO.noConfusion)) h) hnext
    | load ag k x => exact wp_of_did (act_load R hn (hop (by intros; exact MO.noConfusion)) h) hnext
    | store k x y => exact wp_of_did (act_store R hn (hop (by intros; exact MO.noConfusion)) (fun h1 h2 => ⟨clL_rep R h1 h2, clL_closed R h1 h2⟩) h) hnext
    | bin op x y => exact wp_of_did (act_bin R hn (hop (by intros; exact MO.noConfusion)) h) hnext
    | beq ng x y => exact wp_of_did (act_beq R hn (hop (by intros; exact MO.noConfusion)) h) hnext
    | not x => exact wp_of_did (act_not R hn (hop (by intros; exact MO.noConfusion)) h) hnext
    | neg x => exact wp_of_did (act_neg R hn (hop (by intros; exact MO.noConfusion)) h) hnext
    | i2i k x => exact wp_of_did (act_i2i R hn (hop (by intros; exact MO.noConfusion)) h) hnext
    | b2s x => exact wp_of_did (act_b2s R hn (hop (by intros; exact MO.noConfusion)) h) hnext
    | mks sz b z x => exact wp_of_did (act_mks R hn (hop (by intros; exact MO.noConfusion)) h) hnext
    | mkc sz b z x y => exact wp_of_did (act_mkc R hn (hop (by intros; exact MO.noConfusion)) h) hnext
    | sstr x lo hi => exact wp_of_did (act_sstr R hn (hop (by intros; exact MO.noConfusion)) h) hnext
    | slce sz x lo hi => exact wp_of_did (act_slce R hn (hop (by intros; exact MO.noConfusion)) h) hnext
    | slc sz x lo hi mx => exact wp_of_did (act_slc R hn (hop (by intros; exact MO.noConfusion)) h) hnext
    | faddr off x => exact wp_of_did (act_faddr R hn (hop (by intros; exact MO.noConfusion)) h) hnext
    | iaddr sz x ix => exact wp_of_did (act_iaddr R hn (hop (by intros; exact MO.noConfusion)) h) hnext
    | idx x ix => exact wp_of_did (act_idx R hn (hop (by intros; exact MO.noConfusion)) h) hnext
    | fld ag off k x => exact wp_of_did (act_fld R hn (hop (by intros; exact MO.noConfusion)) h) hnext
    | ext i x => exact wp_of_did (act_ext R hn (hop (by intros; exact MO.noConfusion)) h) hnext
    | mkfn f cs => exact wp_of_did (act_mkfn R hn (hop (by intros; exact MO.noConfusion)) h) hnext
    | nilc x => exact wp_of_did (act_nilc R hn (hop (by intros; exact MO.noConfusion)) h) hnext
    | _ => have := hop (by intros; exact MO.noConfusion); revert this; unfold okOp; split <;> simp_all
theorem wanted_ok (R : Rel F Pr w0 lb N E n t o a w) {ops : Array Oper} {g : Option (Nat × Bool)} {x : Oper} (h : okGuard ops g x.guard = true) {b : Bool} (hw : wanted t g = some b) : Region.wanted x (yielded ops a.tmps) = b := by
  unfold okGuard at h
  split at h
  · rename_i h1 h2
    simp only [wanted, Option.some.injEq] at hw
    subst hw
    simp [Region.wanted, h2]
  · rename_i h1 h2 g b1 j b2 hx
    simp only [Bool.and_eq_true, beq_iff_eq] at h
    obtain ⟨rfl, hd⟩ := h
    simp only [wanted] at hw
    simp only [Region.wanted, hx, yielded, hd, Option.bind_some]
    split at hw
    · rename_i v hv
      cases hw
      have := (R.tmps g _ hv).c_inv.bool_inv
      rw [Array.getD_eq_getD_getElem?] at this
      cases hq : a.tmps[g]? with
      | none => rw [hq] at this; simp [undef] at this
      | some u => rw [hq] at this; simp at this; subst this; simp
    · rename_i hv
      cases hw
      have := R.tmps g _ hv
      cases this with
      | undef _ hb =>
        rw [Array.getD_eq_getD_getElem?] at hb
        cases hq : a.tmps[g]? with
        | none => simp
        | some u =>
          rw [hq] at hb
          simp only [Option.getD_some] at hb
          cases u with
          | bool v => exact (hb v rfl).elim
          | _ => simp
    · cases hw
  · cases h
end Mx

namespace Mx
open Go
/-- every place of the one lies in the other -/
def Sub (o o' : List (Nat × Ob)) : Prop := ∀ id b, get o id = some b → get o' id = some b
variable {o o' : List (Nat × Ob)}
theorem mapO_sub {α β : Type} {f g : α → Option β} (h : ∀ x y, f x = some y → g x = some y) : ∀ {l : List α} {r : List β}, mapO f l = some r → mapO g l = some r
  | [], r, hm => hm
  | x :: l, r, hm => by
    simp only [mapO] at hm ⊢
    split at hm
    · rename_i y ys h1 h2
      rw [h x y h1, mapO_sub h h2]
      exact hm
    · cases hm
theorem im0_sub (S : Sub o o') {t y : T} (h : im0 o t = some y) : im0 o' t = some y ∧ wr o' t = wr o t := by
  cases t with
  | row id ver off len =>
    simp only [im0] at h ⊢
    split at h
    · rename_i b hg
      rw [S id b hg]
      exact ⟨h, by simp only [wr, hg, S id b hg]⟩
    · cases h
  | ptr => simp [im0] at h
  | fn => simp [im0] at h
  | _ => exact ⟨h, rfl⟩
theorem cl_sub (S : Sub o o') {t y : T} (h : cl o t = some y) : cl o' t = some y := by
  cases t with
  | ptr => simp [cl] at h
  | vp => simp [cl] at h
  | fn => simp [cl] at h
  | row id ver off len =>
    simp only [cl] at h ⊢
    split at h
    · rename_i hw
      obtain ⟨h1, h2⟩ := im0_sub S h
      rw [h2, if_pos hw]; exact h1
    · cases h
  | _ => exact h
theorem im1_sub (S : Sub o o') {t y : T} (h : im1 o t = some y) : im1 o' t = some y ∧ wr2 o' t = wr2 o t := by
  cases t with
  | ptr id ver i j =>
    simp only [im1] at h ⊢
    split at h
    · rename_i b hg
      rw [S id b hg]
      split at h
      · rename_i hv
        split at h
        · rename_i r hr
          rw [Option.map_eq_some_iff] at h
          obtain ⟨cells, hm, rfl⟩ := h
          simp only [hv, if_true, hr]
          refine ⟨?_, ?_⟩
          · rw [mapO_sub (fun x y hx => (im0_sub S hx).1) hm]; rfl
          · simp only [wr2, hg, S id b hg, hr, wr]
            congr 1
            have : ∀ x ∈ r, wr o' x = wr o x := by
              intro x hx
              obtain ⟨k, hk⟩ := List.getElem?_of_mem hx
              obtain ⟨z, _, hz⟩ := mapO_get2 hm hk
              exact (im0_sub S hz).2
            clear hm hr
            induction r with
            | nil => rfl
            | cons x r ih => simp only [List.flatMap_cons]; rw [this x (by simp), ih (fun z hz => this z (by simp [hz]))]
        · cases h
      · cases h
    · cases h
  | _ => simp only [im1, wr2] at h ⊢; exact im0_sub S h
theorem im_sub (S : Sub o o') {t y : T} (h : im o t = some y) : im o' t = some y ∧ wr3 o' t = wr3 o t := by
  cases t with
  | fn f caps =>
    simp only [im, Option.map_eq_some_iff] at h ⊢
    obtain ⟨cs, hm, rfl⟩ := h
    refine ⟨⟨cs, mapO_sub (fun x y hx => (im1_sub S hx).1) hm, rfl⟩, ?_⟩
    simp only [wr3]
    have : ∀ x ∈ caps, wr2 o' x = wr2 o x := by
      intro x hx
      obtain ⟨k, hk⟩ := List.getElem?_of_mem hx
      obtain ⟨z, _, hz⟩ := mapO_get2 hm hk
      exact (im1_sub S hz).2
    clear hm
    induction caps with
    | nil => rfl
    | cons x r ih => simp only [List.flatMap_cons]; rw [this x (by simp), ih (fun z hz => this z (by simp [hz]))]
  | _ => simp only [im, wr3] at h ⊢; exact im1_sub S h
theorem imV_sub (S : Sub o o') {v y : V} (h : v.im o = some y) : v.im o' = some y ∧ v.wr o' = v.wr o := by
  cases v with
  | c t =>
    simp only [V.im, Option.map_eq_some_iff] at h ⊢
    obtain ⟨z, hz, rfl⟩ := h
    exact ⟨⟨z, (im_sub S hz).1, rfl⟩, (im_sub S hz).2⟩
  | a ts =>
    simp only [V.im, Option.map_eq_some_iff] at h ⊢
    obtain ⟨zs, hz, rfl⟩ := h
    refine ⟨⟨zs, mapO_sub (fun x y hx => (im_sub S hx).1) hz, rfl⟩, ?_⟩
    simp only [V.wr]
    have : ∀ x ∈ ts, wr3 o' x = wr3 o x := by
      intro x hx
      obtain ⟨k, hk⟩ := List.getElem?_of_mem hx
      obtain ⟨z, _, hz⟩ := mapO_get2 hz hk
      exact (im_sub S hz).2
    clear hz
    induction ts with
    | nil => rfl
    | cons x r ih => simp only [List.flatMap_cons]; rw [this x (by simp), ih (fun z hz => this z (by simp [hz]))]
  | tup => simp [V.im] at h
  | undef => simp [V.im] at h
theorem place_sub (S : Sub o o') {t : T} {r : List T × Nat} (h : place o t = some r) : place o' t = some r := by
  cases t with
  | ptr id ver i j =>
    simp only [place] at h ⊢
    split at h
    · rename_i b hg; rw [S id b hg]; exact h
    · cases h
  | _ => exact h
theorem rowsOf_sub (S : Sub o o') {t : T} {r : List (List T)} (h : rowsOf o t = some r) : rowsOf o' t = some r ∧ szOf o' t = szOf o t := by
  cases t with
  | row id ver off len =>
    simp only [rowsOf] at h ⊢
    split at h
    · rename_i b hg; rw [S id b hg]; exact ⟨h, by simp only [szOf, hg, S id b hg]⟩
    · cases h
  | _ => exact ⟨h, rfl⟩
theorem srcOf_sub (S : Sub o o') {sz : Nat} {t : T} {r : List (List T)} (h : srcOf o sz t = some r) : srcOf o' sz t = some r := by
  cases t with
  | str s => exact h
  | _ =>
    simp only [srcOf] at h ⊢
    split at h
    · rename_i ys hy
      rw [(rowsOf_sub S hy).1, (rowsOf_sub S hy).2]
      exact h
    · cases h
theorem lendOne_sub (S : Sub o o') {p : Nat} {v : V} {r : V × Nat × Ob} (h : lendOne o p v = some r) : lendOne o' p v = some r := by
  unfold lendOne at h ⊢
  split at h
  · split at h
    · rename_i b hg
      rw [S _ b hg]
      simp only
      split at h
      · rename_i hc
        rw [if_pos hc]
        rw [Option.map_eq_some_iff] at h ⊢
        obtain ⟨rows, hm, rfl⟩ := h
        exact ⟨rows, mapO_sub (fun x y hx => mapO_sub (fun x y hx => cl_sub S hx) hx) hm, rfl⟩
      · cases h
    · cases h
  · split at h
    · rename_i b hg
      rw [S _ b hg]
      exact h
    · cases h
  · cases h
theorem lendL_sub (S : Sub o o') {lend : List Nat} : ∀ {ts : List T} {k : Nat} {r : List T × List (Nat × Nat × Ob) × List Nat}, lendL o lend k ts = some r → lendL o' lend k ts = some r
  | [], k, r, h => h
  | t :: ts, k, r, h => by
    simp only [lendL] at h ⊢
    cases ha : lendL o lend (k + 1) ts with
    | none => rw [ha] at h; cases h
    | some x =>
      obtain ⟨as, ls, b⟩ := x
      rw [ha] at h
      rw [lendL_sub S ha]
      simp only at h ⊢
      split at h
      · rename_i hp
        rw [if_pos hp]
        cases hl : lendOne o k (.c t) with
        | none => rw [hl] at h; cases h
        | some y => rw [hl] at h; rw [lendOne_sub S hl]; exact h
      · rename_i hp
        rw [if_neg hp]
        cases hl : im o t with
        | none => rw [hl] at h; cases h
        | some y => rw [hl] at h; rw [(im_sub S hl).1, (im_sub S hl).2]; exact h
theorem args_sub (S : Sub o o') {lend : List Nat} : ∀ {vals : List V} {p : Nat} {r : List V × List (Nat × Nat × Ob) × List Nat}, args o lend p vals = some r → args o' lend p vals = some r
  | [], p, r, h => h
  | v :: vals, p, r, h => by
    simp only [args] at h ⊢
    cases ha : args o lend (p + 1) vals with
    | none => rw [ha] at h; cases h
    | some x =>
      obtain ⟨as, ls, b⟩ := x
      rw [ha] at h
      rw [args_sub S ha]
      simp only at h ⊢
      split at h
      · rename_i hp
        rw [if_pos hp]
        cases hl : lendOne o p v with
        | none => rw [hl] at h; cases h
        | some y => rw [hl] at h; rw [lendOne_sub S hl]; exact h
      · rename_i hp
        rw [if_neg hp]
        split at h
        · rename_i hc
          rw [if_pos hc]
          split at h
          · split at h
            · rename_i h64
              simp only [if_pos h64]
              split at h
              · rename_i ts' ls' b' hcl
                rw [lendL_sub S hcl]; exact h
              · cases h
            · cases h
          · cases h
        · rename_i hc
          rw [if_neg hc]
          cases hl : v.im o with
          | none => rw [hl] at h; cases h
          | some y => rw [hl] at h; rw [(imV_sub S hl).1, (imV_sub S hl).2]; exact h
theorem lentBack_sub (S : Sub o o') {nn : Nat} {after : List (Nat × Ob)} : ∀ {ls : List (Nat × Nat × Ob)} {r : List (Nat × Ob)}, lentBack nn o after ls = some r → lentBack nn o' after ls = some r ∧ (ls.map fun l => (l.1, l.2.1, (get o' l.2.1).elim 0 (·.ver))) = ls.map fun l => (l.1, l.2.1, (get o l.2.1).elim 0 (·.ver))
  | [], r, h => ⟨h, rfl⟩
  | (p, id, ob) :: ls, r, h => by
    simp only [lentBack] at h ⊢
    split at h
    · rename_i b l h2 h3
      obtain ⟨i1, i2⟩ := lentBack_sub S h3
      rw [S id b h2, i1]
      refine ⟨h, ?_⟩
      simp only [List.map_cons, i2, h2, S id b h2]
    · cases h
theorem doCall_sub (S : Sub o o') {cf : CallF} {n f : Nat} {vals : List V} {lend : List Nat} {thaw : List (Nat × Nat)} {r : V × List (Nat × Ob)} (h : doCall cf n o f vals lend thaw = some r) : doCall cf n o' f vals lend thaw = some r := by
  unfold doCall at h ⊢
  cases ha : args o lend 0 vals with
  | none => rw [ha] at h; cases h
  | some x =>
    obtain ⟨as, ls, b⟩ := x
    rw [ha] at h
    rw [args_sub S ha]
    simp only at h ⊢
    split at h
    · rename_i hc
      rw [if_pos hc]
      split at h
      · cases h
      · rename_i res after hres
        cases hl : lentBack n o after ls with
        | none => rw [hl] at h; cases h
        | some ups =>
          rw [hl] at h
          obtain ⟨i1, i2⟩ := lentBack_sub S hl
          simp only [i1, i2]
          exact h
    · cases h
theorem look_t {t t' : List (Nat × V)} {x : O} (h : ∀ k ∈ x.tmps, get t' k = get t k) : look t' x = look t x := by
  cases x with
  | t n => exact h n (by simp [O.tmps])
  | k v => rfl
  | fn f => rfl
theorem mapO_congr {α β : Type} {f g : α → Option β} : ∀ {l : List α}, (∀ x ∈ l, f x = g x) → mapO f l = mapO g l
  | [], _ => rfl
  | x :: l, h => by simp only [mapO]; rw [h x (by simp), mapO_congr (fun y hy => h y (by simp [hy]))]
theorem act_t {cf : CallF} {n d : Nat} {t t' : List (Nat × V)} {m : MO} (h : ∀ k ∈ m.tmps, get t' k = get t k) : act cf n d t' o m = act cf n d t o m := by
  have L : ∀ x : O, (∀ k ∈ x.tmps, k ∈ m.tmps) → look t' x = look t x := fun x hx => look_t fun k hk => h k (hx k hk)
  have LT : ∀ x : O, (∀ k ∈ x.tmps, k ∈ m.tmps) → lookT t' x = lookT t x := fun x hx => by simp only [lookT, L x hx]
  have LI : ∀ x : O, (∀ k ∈ x.tmps, k ∈ m.tmps) → lookI t' x = lookI t x := fun x hx => by simp only [lookI, L x hx]
  have LBo : ∀ x : O, (∀ k ∈ x.tmps, k ∈ m.tmps) → lookB t' x = lookB t x := fun x hx => by simp only [lookB, L x hx]
  have LN : ∀ x : O, (∀ k ∈ x.tmps, k ∈ m.tmps) → lookN t' x = lookN t x := fun x hx => by simp only [lookN, L x hx]
  have LG : ∀ x : O, (∀ k ∈ x.tmps, k ∈ m.tmps) → lookG t' x = lookG t x := fun x hx => by simp only [lookG, L x hx]
  have LA : ∀ x : O, (∀ k ∈ x.tmps, k ∈ m.tmps) → lookA t' x = lookA t x := fun x hx => by simp only [lookA, L x hx]
  have LO : ∀ (x : Option O) (dd : Nat), (∀ k ∈ oTmps x, k ∈ m.tmps) → optN t' dd x = optN t dd x := fun x dd hx => by
    cases x with
    | none => rfl
    | some x => exact LN x hx
  cases m with
  | build zero parts =>
    simp only [act]
    congr 1
    apply mapO_congr
    intro x hx
    rw [LA x.2.2 (fun k hk => by simp only [MO.tmps, List.mem_flatMap]; exact ⟨x, hx, hk⟩)]
  | bslice sz len zero parts =>
    simp only [act]
    congr 1
    apply mapO_congr
    intro x hx
    rw [LA x.2 (fun k hk => by simp only [MO.tmps, List.mem_flatMap]; exact ⟨x, hx, hk⟩)]
  | bslf sz len zero parts =>
    simp only [act]
    congr 1
    apply mapO_congr
    intro x hx
    rw [LA x.2 (fun k hk => by simp only [MO.tmps, List.mem_flatMap]; exact ⟨x, hx, hk⟩)]
  | call f as lend thaw =>
    simp only [act]
    rw [mapO_congr (f := look t') (g := look t) fun x hx => L x fun k hk => by simp only [MO.tmps, List.mem_flatMap]; exact ⟨x, hx, hk⟩]
  | callv f as =>
    simp only [act]
    rw [mapO_congr (f := look t') (g := look t) fun x hx => L x fun k hk => by simp only [MO.tmps, List.mem_append, List.mem_flatMap]; exact .inr ⟨x, hx, hk⟩, LT f fun k hk => by simp only [MO.tmps, List.mem_append]; exact .inl hk]
  | mkfn f caps =>
    simp only [act]
    rw [mapO_congr (f := lookT t') (g := lookT t) fun x hx => LT x fun k hk => by simp only [MO.tmps, List.mem_flatMap]; exact ⟨x, hx, hk⟩]
  | pick c x y =>
    simp only [act]
    rw [LBo c (fun k hk => by simp [MO.tmps, hk])]
    cases lookB t c with
    | none => rfl
    | some b => cases b <;> simp [L x (fun k hk => by simp [MO.tmps, hk]), L y (fun k hk => by simp [MO.tmps, hk])]
  | sstr x lo hi =>
    simp only [act]
    rw [LT x (fun k hk => by simp [MO.tmps, hk])]
    cases lookT t x with
    | none => rfl
    | some z => cases z <;> first | rfl | (simp only [LO lo 0 (fun k hk => by simp [MO.tmps, hk]), LO hi _ (fun k hk => by simp [MO.tmps, hk])])
  | slce sz x lo hi =>
    simp only [act]
    rw [LT x (fun k hk => by simp [MO.tmps, hk])]
    simp only [LO lo 0 (fun k hk => by simp [MO.tmps, hk]), LO hi _ (fun k hk => by simp [MO.tmps, hk])]
  | slc sz x lo hi mx =>
    simp only [act]
    rw [LT x (fun k hk => by simp [MO.tmps, hk])]
    simp only [LO lo 0 (fun k hk => by simp [MO.tmps, hk]), LO hi _ (fun k hk => by simp [MO.tmps, hk]), LO mx _ (fun k hk => by simp [MO.tmps, hk])]
  | _ => simp only [act, MO.tmps, List.mem_append] at * <;> simp_all
theorem act_sub (S : Sub o o') {cf : CallF} {n d : Nat} {t : List (Nat × V)} {m : MO} {r : V × List (Nat × Ob)} (h : act cf n d t o m = some r) : act cf n d t o' m = some r := by
  cases m with
  | bslice sz len zero parts =>
    simp only [act, Option.map_eq_some_iff] at h ⊢
    obtain ⟨ps, hm, rfl⟩ := h
    refine ⟨ps, mapO_sub ?_ hm, rfl⟩
    intro x y hx
    split at hx
    · split at hx
      · rename_i hc
        rw [if_pos hc]
        rw [Option.map_eq_some_iff] at hx ⊢
        obtain ⟨z, hz, rfl⟩ := hx
        exact ⟨z, mapO_sub (fun x y hx => cl_sub S hx) hz, rfl⟩
      · cases hx
    · cases hx
  | bslf sz len zero parts =>
    simp only [act, Option.map_eq_some_iff] at h ⊢
    obtain ⟨ps, hm, rfl⟩ := h
    refine ⟨ps, mapO_sub ?_ hm, rfl⟩
    intro x y hx
    split at hx
    · split at hx
      · rename_i hc
        rw [if_pos hc]
        rw [Option.map_eq_some_iff] at hx ⊢
        obtain ⟨z, hz, rfl⟩ := hx
        exact ⟨z, mapO_sub (fun x y hx => cl_sub S hx) hz, rfl⟩
      · cases hx
    · cases hx
  | load agg k a =>
    simp only [act] at h ⊢
    split at h
    · cases h
    · split at h
      · cases h
      · rename_i hp
        rw [place_sub S hp]
        exact h
  | store k a x =>
    simp only [act] at h ⊢
    split at h
    · rename_i cs0 _ _
      split at h
      · rename_i b hg
        rw [S _ b hg]
        simp only
        split at h
        · rename_i hc
          rw [if_pos hc]
          split at h
          · rename_i cs hr hcs
            rw [hr]
            have : (if b.bx = true then some cs0 else mapO (cl o') cs0) = some cs := by
              split at hcs
              · rename_i hb; rw [if_pos hb]; exact hcs
              · rename_i hb; rw [if_neg hb]; exact mapO_sub (fun x y hx => cl_sub S hx) hcs
            rw [this]
            exact h
          · cases h
        · cases h
      · cases h
    · cases h
  | b2s x =>
    simp only [act] at h ⊢
    split at h
    · split at h
      · rename_i rows hr
        rw [(rowsOf_sub S hr).1, (rowsOf_sub S hr).2]
        exact h
      · cases h
    · cases h
  | slce sz x lo hi =>
    simp only [act] at h ⊢
    split at h
    · split at h
      · rename_i b l u hg h1 h2
        rw [S _ b hg, h1, h2]
        exact h
      · cases h
    · cases h
  | appi sz bytes x y =>
    simp only [act] at h ⊢
    split at h
    · split at h
      · rename_i ys b hy hg
        rw [srcOf_sub S hy, S _ b hg]
        exact h
      · cases h
    · cases h
  | slc sz x lo hi mx =>
    simp only [act] at h ⊢
    split at h
    · split at h
      · split at h
        · split at h
          · rename_i hc
            rw [if_pos hc]
            split at h
            · rename_i hm; rw [if_pos hm]; exact h
            · rename_i hm
              rw [if_neg hm]
              split at h
              · exact h
              · exact h
              · split at h
                · rename_i b hg
                  rw [S _ b hg]
                  exact h
                · cases h
              · cases h
          · cases h
        · cases h
      · cases h
    · cases h
  | iaddr sz x ix =>
    simp only [act] at h ⊢
    split at h
    · split at h
      · rename_i b hg
        rw [S _ b hg]
        exact h
      · cases h
    · exact h
    · cases h
  | app sz bytes x y =>
    simp only [act] at h ⊢
    split at h
    · split at h
      · cases h
      · rename_i ys hy
        rw [srcOf_sub S hy]
        simp only
        split at h
        · rename_i hb
          rw [if_pos hb]
          split at h
          · exact h
          · split at h
            · rename_i b hg
              rw [S _ b hg]
              exact h
            · cases h
          · cases h
        · cases h
    · cases h
  | clr zero x =>
    simp only [act] at h ⊢
    split at h
    · exact h
    · exact h
    · split at h
      · rename_i b hg
        rw [S _ b hg]
        exact h
      · cases h
    · cases h
  | call f as lend thaw =>
    simp only [act] at h ⊢
    split at h
    · exact doCall_sub S h
    · cases h
  | callv x as =>
    simp only [act] at h ⊢
    split at h
    · exact doCall_sub S h
    · cases h
  | _ => exact h
end Mx

namespace Mx
open Go
def appT (S : Nat → Bool) : Nat → List Ent → List (Nat × V) → List (Nat × V)
  | _, [], t => t
  | i, e :: es, t => appT S (i + 1) es (if S i then setT t e.dst e.v else t)
def appO (S : Nat → Bool) : Nat → List Ent → List (Nat × Ob) → List (Nat × Ob)
  | _, [], o => o
  | i, e :: es, o => appO S (i + 1) es (if S i then e.ups ++ o else o)
theorem get_setT (t : List (Nat × V)) (d : Option Nat) (v : V) (x : Nat) : get (setT t d v) x = if d = some x then some v else get t x := by
  cases d with
  | none => rfl
  | some d =>
    simp only [setT, get, Option.some.injEq]
    by_cases h : x = d
    · subst h; simp
    · have : ¬ d = x := fun e => h e.symm
      simp [h, this]
theorem get_none_of_keys {α : Type} : ∀ {l : List (Nat × α)} {x : Nat}, x ∉ l.map (·.1) → get l x = none
  | [], _, _ => rfl
  | (k, v) :: l, x, h => by
    simp only [List.map_cons, List.mem_cons, not_or] at h
    simp only [get, if_neg h.1]
    exact get_none_of_keys h.2
theorem appT_congr {S S' : Nat → Bool} {x : Nat} : ∀ {es : List Ent} {i : Nat} {t t' : List (Nat × V)}, (∀ j e, es[j]? = some e → e.dst = some x → S (i + j) = S' (i + j)) → get t x = get t' x → get (appT S i es t) x = get (appT S' i es t') x
  | [], i, t, t', _, h => h
  | e :: es, i, t, t', hs, h => by
    simp only [appT]
    refine appT_congr (fun j e' h1 h2 => by have := hs (j + 1) e' (by simpa using h1) h2; rw [show i + 1 + j = i + (j + 1) from by omega]; exact this) ?_
    by_cases hd : e.dst = some x
    · have := hs 0 e (by simp) hd
      simp only [Nat.add_zero] at this
      rw [this]
      split
      · simp [get_setT, hd]
      · exact h
    · have e1 : ∀ t : List (Nat × V), get (setT t e.dst e.v) x = get t x := fun t => by rw [get_setT, if_neg hd]
      split <;> split <;> simp [e1, h]
theorem appO_congr {S S' : Nat → Bool} {x : Nat} : ∀ {es : List Ent} {i : Nat} {t t' : List (Nat × Ob)}, (∀ j e, es[j]? = some e → x ∈ e.W → S (i + j) = S' (i + j)) → get t x = get t' x → get (appO S i es t) x = get (appO S' i es t') x
  | [], i, t, t', _, h => h
  | e :: es, i, t, t', hs, h => by
    simp only [appO]
    refine appO_congr (fun j e' h1 h2 => by have := hs (j + 1) e' (by simpa using h1) h2; rw [show i + 1 + j = i + (j + 1) from by omega]; exact this) ?_
    by_cases hd : x ∈ e.W
    · have := hs 0 e (by simp) hd
      simp only [Nat.add_zero] at this
      rw [this]
      split
      · simp [get_append, h]
      · exact h
    · have e1 : ∀ t : List (Nat × Ob), get (e.ups ++ t) x = get t x := fun t => by rw [get_append, get_none_of_keys hd]; simp
      split <;> split <;> simp [e1, h]
theorem appT_ext {S S' : Nat → Bool} : ∀ {es : List Ent} {i : Nat} {t : List (Nat × V)}, (∀ j, j < es.length → S (i + j) = S' (i + j)) → appT S i es t = appT S' i es t
  | [], _, _, _ => rfl
  | e :: es, i, t, h => by
    simp only [appT]
    have h0 := h 0 (by simp)
    simp only [Nat.add_zero] at h0
    rw [h0]
    exact appT_ext fun j hj => by rw [show i + 1 + j = i + (j + 1) from by omega]; exact h (j + 1) (by simp; omega)
theorem appO_ext {S S' : Nat → Bool} : ∀ {es : List Ent} {i : Nat} {t : List (Nat × Ob)}, (∀ j, j < es.length → S (i + j) = S' (i + j)) → appO S i es t = appO S' i es t
  | [], _, _, _ => rfl
  | e :: es, i, t, h => by
    simp only [appO]
    have h0 := h 0 (by simp)
    simp only [Nat.add_zero] at h0
    rw [h0]
    exact appO_ext fun j hj => by rw [show i + 1 + j = i + (j + 1) from by omega]; exact h (j + 1) (by simp; omega)
/-- one more is done -/
def with1 (S : Nat → Bool) (k : Nat) : Nat → Bool := fun j => S j || j == k
theorem appT_add {S : Nat → Bool} {x : Nat} : ∀ {es : List Ent} {i k : Nat} {e : Ent} {t : List (Nat × V)}, i ≤ k → es[k - i]? = some e → (∀ j e', es[j]? = some e' → S (i + j) = true → k < i + j → e.dst = some x → e'.dst ≠ some x) → S k = false →
    get (appT (with1 S k) i es t) x = get (setT (appT S i es t) e.dst e.v) x
  | [], i, k, e, t, hk, he, _, _ => by simp at he
  | f :: es, i, k, e, t, hk, he, hw, hS => by
    simp only [appT]
    by_cases hik : i = k
    · subst hik
      simp at he; subst he
      have h1 : with1 S i i = true := by simp [with1]
      rw [h1, hS]
      simp only [if_true, Bool.false_eq_true, if_false]
      rw [get_setT]
      by_cases hd : f.dst = some x
      · rw [if_pos hd]
        have : get (appT (fun _ => false) (i + 1) es (setT t f.dst f.v)) x = some f.v := by
          have z : ∀ (es : List Ent) (i : Nat) (t : List (Nat × V)), appT (fun _ => false) i es t = t := by
            intro es
            induction es with
            | nil => intro i t; rfl
            | cons e es ih => intro i t; simp only [appT]; exact ih _ _
          rw [z, get_setT, if_pos hd]
        rw [← this]
        refine appT_congr (fun j e' h1 h2 => ?_) rfl
        cases hq : with1 S i (i + 1 + j) with
        | false => rfl
        | true =>
          exfalso
          have hq' : S (i + 1 + j) = true := by simp only [with1, Bool.or_eq_true, beq_iff_eq] at hq; rcases hq with q | q; exact q; omega
          exact hw (j + 1) e' (by simpa using h1) (by rw [show i + (j + 1) = i + 1 + j from by omega]; exact hq') (by omega) hd h2
      · rw [if_neg hd]
        exact appT_congr (fun j e' h1 h2 => by have : ¬ (i + 1 + j = i) := (by omega); simp [with1, this]) (by rw [get_setT, if_neg hd])
    · have h1 : with1 S k i = S i := by have : ¬ (i = k) := hik; simp [with1, this]
      rw [h1]
      refine appT_add (by omega) ?_ (fun j e' q1 q2 q3 q4 => hw (j + 1) e' (by simpa using q1) (by rw [show i + (j + 1) = i + 1 + j from by omega]; exact q2) (by omega) q4) hS
      rw [show k - i = (k - (i + 1)) + 1 from by omega] at he
      simpa using he
theorem appO_add {S : Nat → Bool} {x : Nat} : ∀ {es : List Ent} {i k : Nat} {e : Ent} {t : List (Nat × Ob)}, i ≤ k → es[k - i]? = some e → (∀ j e', es[j]? = some e' → S (i + j) = true → k < i + j → x ∈ e.W → x ∉ e'.W) → S k = false →
    get (appO (with1 S k) i es t) x = get (e.ups ++ appO S i es t) x
  | [], i, k, e, t, hk, he, _, _ => by simp at he
  | f :: es, i, k, e, t, hk, he, hw, hS => by
    simp only [appO]
    by_cases hik : i = k
    · subst hik
      simp at he; subst he
      have h1 : with1 S i i = true := by simp [with1]
      rw [h1, hS]
      simp only [if_true, Bool.false_eq_true, if_false]
      by_cases hd : x ∈ f.W
      · have z : ∀ (es : List Ent) (i : Nat) (t : List (Nat × Ob)), appO (fun _ => false) i es t = t := by
          intro es
          induction es with
          | nil => intro i t; rfl
          | cons e es ih => intro i t; simp only [appO]; exact ih _ _
        have hno : ∀ (S' : Nat → Bool), (∀ j, S' (i + 1 + j) = S (i + 1 + j)) → ∀ t : List (Nat × Ob), get (appO S' (i + 1) es t) x = get t x := by
          intro S' hS' t
          have : get (appO (fun _ => false) (i + 1) es t) x = get t x := by rw [z]
          rw [← this]
          refine appO_congr (fun j e' h1 h2 => ?_) rfl
          cases hq : S' (i + 1 + j) with
          | false => rfl
          | true =>
            exfalso
            rw [hS'] at hq
            exact hw (j + 1) e' (by simpa using h1) (by rw [show i + (j + 1) = i + 1 + j from by omega]; exact hq) (by omega) hd h2
        rw [hno (with1 S i) (fun j => by have : ¬ (i + 1 + j = i) := (by omega); simp [with1, this]), get_append, get_append, hno S (fun _ => rfl)]
      · rw [get_append, get_none_of_keys hd]
        simp only [Option.none_or]
        exact appO_congr (fun j e' h1 h2 => by have : ¬ (i + 1 + j = i) := (by omega); simp [with1, this]) (by rw [get_append, get_none_of_keys hd]; simp)
    · have h1 : with1 S k i = S i := by have : ¬ (i = k) := hik; simp [with1, this]
      rw [h1]
      refine appO_add (by omega) ?_ (fun j e' q1 q2 q3 q4 => hw (j + 1) e' (by simpa using q1) (by rw [show i + (j + 1) = i + 1 + j from by omega]; exact q2) (by omega) q4) hS
      rw [show k - i = (k - (i + 1)) + 1 from by omega] at he
      simpa using he
end Mx

namespace Mx
open Go
theorem stepsD_ents {cf : CallF} {n : Nat} : ∀ {ms : List Mop} {as : List (List Nat)} {i : Nat} {t : List (Nat × V)} {o : List (Nat × Ob)} {acc : List (Nat × Ent)} {r : List (Nat × V) × List (Nat × Ob)}, stepsD cf n i ms as t o acc = some r →
    ∃ es : List Ent, es.length = ms.length ∧ r = (appT (fun _ => true) i es t, appO (fun _ => true) i es o) ∧
      ∀ j m, ms[j]? = some m → ∃ a e, as[j]? = some a ∧ es[j]? = some e ∧ entOf cf n (i + j) m (appT (fun q => decide (q < i + j)) i es t) (appO (fun q => decide (q < i + j)) i es o) = some e ∧
        (∀ x ∈ acc, a.contains x.1 = true ∨ e.apart x.2 = true) ∧ (∀ j' e', j' < j → es[j']? = some e' → a.contains (i + j') = true ∨ e.apart e' = true)
  | [], as, i, t, o, acc, r, h => by
    simp only [stepsD, Option.some.injEq] at h
    subst h
    exact ⟨[], rfl, rfl, fun j m hj => by simp at hj⟩
  | m :: ms, [], i, t, o, acc, r, h => by simp [stepsD] at h
  | m :: ms, a :: as, i, t, o, acc, r, h => by
    simp only [stepsD] at h
    split at h
    · rename_i e he
      split at h
      · rename_i hc
        obtain ⟨es, h1, h2, h3⟩ := stepsD_ents h
        have z : ∀ (es : List Ent) (k : Nat) (t : List (Nat × V)), i ≤ k → appT (fun q => decide (q < i)) k es t = t := by
          intro es
          induction es with
          | nil => intro k t _; rfl
          | cons e es ih => intro k t hk; simp only [appT]; rw [if_neg (by simp; omega)]; exact ih _ _ (by omega)
        have z2 : ∀ (es : List Ent) (k : Nat) (t : List (Nat × Ob)), i ≤ k → appO (fun q => decide (q < i)) k es t = t := by
          intro es
          induction es with
          | nil => intro k t _; rfl
          | cons e es ih => intro k t hk; simp only [appO]; rw [if_neg (by simp; omega)]; exact ih _ _ (by omega)
        refine ⟨e :: es, by simp [h1], ?_, ?_⟩
        · rw [h2]; simp only [appT, appO, if_true]
        · intro j m' hj
          cases j with
          | zero =>
            simp at hj; subst hj
            refine ⟨a, e, rfl, rfl, ?_, ?_, fun j' e' h => by omega⟩
            · rw [Nat.add_zero, z _ _ _ (Nat.le_refl _), z2 _ _ _ (Nat.le_refl _)]; exact he
            · intro x hx
              simp only [List.all_eq_true, Bool.or_eq_true] at hc
              exact hc x hx
          | succ j =>
            obtain ⟨a', e', q1, q2, q3, q4, q5⟩ := h3 j m' (by simpa using hj)
            refine ⟨a', e', by simpa using q1, by simpa using q2, ?_, fun x hx => q4 x (List.mem_cons_of_mem _ hx), ?_⟩
            · simp only [appT, appO]
              rw [if_pos (by simp), if_pos (by simp), show i + (j + 1) = i + 1 + j from by omega]
              exact q3
            · intro j' e2 hj' he2
              cases j' with
              | zero =>
                simp at he2; subst he2
                exact q4 (i, e) (List.mem_cons_self ..)
              | succ j' =>
                have := q5 j' e2 (by omega) (by simpa using he2)
                rw [show i + (j' + 1) = i + 1 + j' from by omega]; exact this
      · cases h
    · cases h
def guardT (m : Mop) : List Nat := match m.guard with
  | some (g, _) => [g]
  | none => []
def readsT (m : Mop) : List Nat := m.op.tmps ++ guardT m
def tApart (m m' : Mop) : Bool := (match m.dst with | some d => !(readsT m').contains d && (m'.dst != some d) | none => true) && (match m'.dst with | some d => !(readsT m).contains d | none => true)
def okOne (P : Program) (F : Nat → FuncId) (N : Nat) (xs : Array Oper) (ms : List Mop) (as : List (List Nat)) (i : Nat) : Bool :=
  match ms[i]?, as[i]?, xs[i]? with
  | some m, some a, some x =>
    okMop P F N xs m x && a.all (fun j => decide (j < i)) && a.all (fun j => x.after.any fun e => Region.binds .any e && (e.on == j || (match as[e.on]? with | some b => b.contains j | none => false))) &&
    x.after.all (fun e => !Region.binds .any e || decide (e.on < i)) && (List.range i).all fun j => a.contains j || (match ms[j]? with | some m' => tApart m m' | none => false)
  | _, _, _ => false
def okDraw (P : Program) (F : Nat → FuncId) (N : Nat) (xs : Array Oper) (ms : List Mop) (as : List (List Nat)) : Bool :=
  P.follows .mixedOrders && ms.length == xs.size && (List.range ms.length).all (okOne P F N xs ms as)
def NS (nb : Nat) (S : Nat → Bool) (k : Nat) : Prop := k < nb ∨ ∃ i, S i = true ∧ nb + 16 * i ≤ k ∧ k < nb + 16 * i + 16
theorem fr_NS {nb : Nat} {S : Nat → Bool} {i : Nat} (h : S i = false) : Fr (NS nb S) (nb + 16 * i) (NS nb (with1 S i)) := by
  refine ⟨?_, ?_, ?_⟩
  · rintro k h1 h2 (h3 | ⟨j, h3, h4, h5⟩)
    · omega
    · have : j = i := by omega
      subst this; rw [h] at h3; cases h3
  · rintro k (h3 | ⟨j, h3, h4, h5⟩)
    · exact .inl h3
    · exact .inr ⟨j, by simp [with1, h3], h4, h5⟩
  · intro k h1 h2
    exact .inr ⟨i, by simp [with1], h1, by omega⟩
theorem ent_dst {cf : CallF} {n i : Nat} {m : Mop} {t : List (Nat × V)} {o : List (Nat × Ob)} {e : Ent} (h : entOf cf n i m t o = some e) : e.dst = m.dst := by
  unfold entOf at h
  split at h
  · rw [Option.map_eq_some_iff] at h; obtain ⟨r, _, rfl⟩ := h; rfl
  · cases h; rfl
  · cases h
variable {P : Program} {F : Nat → FuncId} {Pr : Nat → Prop} {w0 : World} {lb : Lb} {N : Nat}
theorem Rel.n_mono {E : Nat → Option Loc} {n n' : Nat → Prop} {t : List (Nat × V)} {o : List (Nat × Ob)} {a : Act} {w : World} (R : Rel F Pr w0 lb N E n t o a w) (h : ∀ k, n k → n' k) : Rel F Pr w0 lb N E n' t o a w := R.same rfl rfl rfl rfl h
theorem Rel.geteq {E : Nat → Option Loc} {n : Nat → Prop} {t t' : List (Nat × V)} {o o' : List (Nat × Ob)} {a : Act} {w : World} (R : Rel F Pr w0 lb N E n t o a w) (ht : ∀ x, get t' x = get t x) (ho : ∀ x, get o' x = get o x) : Rel F Pr w0 lb N E n t' o' a w :=
  R.sub (fun d v h => by rw [← ht]; exact h) fun id ob h => ⟨ob, by rw [← ho]; exact h, rfl, rfl, rfl, rfl, fun h => h⟩
section
variable {cf : CallF} {xs : Array Oper} {ms : List Mop} {as : List (List Nat)} {nb : Nat} {es : List Ent} {t0 : List (Nat × V)} {o0 : List (Nat × Ob)}
/-- what the run gave, for one operation of the region and the set of those done before it -/
theorem draw_step (hok : (List.range ms.length).all (okOne P F N xs ms as) = true)
    (hes : ∀ j m, ms[j]? = some m → ∃ a e, as[j]? = some a ∧ es[j]? = some e ∧ entOf cf nb j m (appT (fun q => decide (q < j)) 0 es t0) (appO (fun q => decide (q < j)) 0 es o0) = some e ∧ (∀ j' e', j' < j → es[j']? = some e' → a.contains j' = true ∨ e.apart e' = true))
    (hlen : es.length = ms.length) {S : Nat → Bool} {i : Nat} {m : Mop} {e : Ent} (hi : ms[i]? = some m) (he : es[i]? = some e) (hS : S i = false)
    (hanc : ∀ a, as[i]? = some a → ∀ j ∈ a, S j = true) (hdown : ∀ j a, as[j]? = some a → S j = true → ∀ k ∈ a, S k = true) :
    (∀ x ∈ readsT m, get (appT S 0 es t0) x = get (appT (fun q => decide (q < i)) 0 es t0) x) ∧
    (∀ x ∈ e.T, get (appO S 0 es o0) x = get (appO (fun q => decide (q < i)) 0 es o0) x) ∧
    (∀ x, get (appT (with1 S i) 0 es t0) x = get (setT (appT S 0 es t0) e.dst e.v) x) ∧
    (∀ x, get (appO (with1 S i) 0 es o0) x = get (e.ups ++ appO S 0 es o0) x) := by
  have one : ∀ j, j < ms.length → okOne P F N xs ms as j = true := by
    intro j hj
    simp only [List.all_eq_true, List.mem_range] at hok
    exact hok j hj
  -- any two operations: the later waits for the earlier, or they are apart
  have two : ∀ (j k : Nat) (mj : Mop) (ek' ej : Ent), j < k → ms[k]? = some mj → es[k]? = some ek' → es[j]? = some ej → (∃ a, as[k]? = some a ∧ j ∈ a) ∨ (ek'.apart ej = true ∧ ∃ mj', ms[j]? = some mj' ∧ tApart mj mj' = true) := by
    intro j k mk ek ej hjk hk hek hej
    obtain ⟨a, e', q1, q2, _, q4⟩ := hes k mk hk
    rw [hek] at q2; cases q2
    by_cases hc : a.contains j = true
    · exact .inl ⟨a, q1, by simpa using hc⟩
    · refine .inr ⟨(q4 j ej hjk hej).resolve_left hc, ?_⟩
      have := one k (List.getElem?_eq_some_iff.1 hk).1
      unfold okOne at this
      rw [hk, q1] at this
      split at this
      · rename_i m1 a1 x1 e1 e2 e3
        cases e1; cases e2
        simp only [Bool.and_eq_true, List.all_eq_true, List.mem_range, Bool.or_eq_true] at this
        have h2 := (this.2 j hjk).resolve_left hc
        split at h2
        · rename_i m' hm'; exact ⟨m', hm', h2⟩
        · cases h2
      · cases this
  have msOf : ∀ (j : Nat) (ej : Ent), es[j]? = some ej → ∃ mj, ms[j]? = some mj ∧ ej.dst = mj.dst := by
    intro j ej hj
    have hlt : j < ms.length := by rw [← hlen]; exact (List.getElem?_eq_some_iff.1 hj).1
    obtain ⟨a, e', _, q2, q3, _⟩ := hes j ms[j] (by simp [hlt])
    rw [hj] at q2; cases q2
    exact ⟨ms[j], by simp [hlt], ent_dst q3⟩
  -- done before i, or not at all, or apart
  have side : ∀ (j : Nat) (ej : Ent), es[j]? = some ej → j ≠ i → (S j = decide (j < i)) ∨ (∃ mj, ms[j]? = some mj ∧ ej.dst = mj.dst ∧ ((j < i ∧ e.apart ej = true ∧ tApart m mj = true) ∨ (i < j ∧ ej.apart e = true ∧ tApart mj m = true))) := by
    intro j ej hj hne
    obtain ⟨mj, hmj, hd⟩ := msOf j ej hj
    rcases Nat.lt_or_gt_of_ne hne with h | h
    · rcases two j i m e ej h hi he hj with ⟨a, h1, h2⟩ | ⟨h1, mj', h2, h3⟩
      · left; rw [hanc a h1 j h2]; simp [h]
      · rw [hmj] at h2; cases h2
        exact .inr ⟨mj, hmj, hd, .inl ⟨h, h1, h3⟩⟩
    · rcases two i j mj ej e h hmj hj he with ⟨a, h1, h2⟩ | ⟨h1, mi', h2, h3⟩
      · left
        have : S j = false := by
          cases hq : S j with
          | false => rfl
          | true => have := hdown j a h1 hq i h2; rw [hS] at this; cases this
        rw [this]; simp; omega
      · rw [hi] at h2; cases h2
        exact .inr ⟨mj, hmj, hd, .inr ⟨h, h1, h3⟩⟩
  have hed : e.dst = m.dst := by
    obtain ⟨m', h1, h2⟩ := msOf i e he
    rw [hi] at h1; cases h1; exact h2
  refine ⟨?_, ?_, ?_, ?_⟩
  · intro x hx
    refine appT_congr (fun j ej hj hd => ?_) rfl
    rw [Nat.zero_add]
    by_cases hne : j = i
    · subst hne; rw [hS]; simp
    · rcases side j ej hj hne with h | ⟨mj, _, hdj, ⟨_, _, h⟩ | ⟨_, _, h⟩⟩
      · exact h
      · exfalso
        rw [hdj] at hd
        simp only [tApart, hd, Bool.and_eq_true, Bool.not_eq_true'] at h
        have := h.2
        simp at this
        exact this hx
      · exfalso
        rw [hdj] at hd
        simp only [tApart, hd, Bool.and_eq_true, Bool.not_eq_true'] at h
        have := h.1.1
        simp at this
        exact this hx
  · intro x hx
    refine appO_congr (fun j ej hj hd => ?_) rfl
    rw [Nat.zero_add]
    by_cases hne : j = i
    · subst hne; rw [hS]; simp
    · rcases side j ej hj hne with h | ⟨mj, _, hdj, ⟨_, h, _⟩ | ⟨_, h, _⟩⟩
      · exact h
      · exfalso
        simp only [Ent.apart, Bool.and_eq_true, List.all_eq_true, Bool.not_eq_true'] at h
        have := h.2 x hd
        simp at this
        exact this hx
      · exfalso
        simp only [Ent.apart, Bool.and_eq_true, List.all_eq_true, Bool.not_eq_true'] at h
        have := (h.1 x hd).1
        simp at this
        exact this hx
  · intro x
    refine appT_add (Nat.zero_le _) (by simpa using he) ?_ hS
    intro j ej hj hSj hlt hd hdj
    rw [Nat.zero_add] at hSj hlt
    rcases side j ej hj (by omega) with h | ⟨mj, _, hdj', ⟨h0, _, h⟩ | ⟨_, _, h⟩⟩
    · rw [hSj] at h; simp at h; omega
    · omega
    · rw [hdj'] at hdj
      rw [hed] at hd
      simp [tApart, hdj, hd] at h
  · intro x
    refine appO_add (Nat.zero_le _) (by simpa using he) ?_ hS
    intro j ej hj hSj hlt hd hdj
    rw [Nat.zero_add] at hSj hlt
    rcases side j ej hj (by omega) with h | ⟨mj, _, hdj', ⟨h0, _, h⟩ | ⟨_, h, _⟩⟩
    · rw [hSj] at h; simp at h; omega
    · omega
    · simp only [Ent.apart, Bool.and_eq_true, List.all_eq_true, Bool.not_eq_true'] at h
      have := (h.1 x hdj).2
      simp at this
      exact this hd
end
end Mx

namespace Mx
open Go
variable {P : Program} {F : Nat → FuncId} {Pr : Nat → Prop} {w0 : World} {lb : Lb} {N : Nat}
section
variable {cf : CallF} {xs : Array Oper} {ms : List Mop} {as : List (List Nat)} {nb : Nat} {es : List Ent} {t0 : List (Nat × V)} {o0 : List (Nat × Ob)}
theorem get_keep_mem {α : Type} (ks : List Nat) (l : List (Nat × α)) {x : Nat} {v : α} (h : get (keep ks l) x = some v) : x ∈ ks := by
  induction ks with
  | nil => simp [keep, get] at h
  | cons k ks ih =>
    simp only [keep, List.filterMap_cons] at h
    cases hk : get l k with
    | none => simp only [hk, Option.map_none] at h; exact List.mem_cons_of_mem _ (ih h)
    | some u =>
      simp only [hk, Option.map_some, get] at h
      split at h
      · rename_i e; subst e; exact List.mem_cons_self ..
      · exact List.mem_cons_of_mem _ (ih h)
theorem ready_nil {L : Array Bool} (hL : L.size = xs.size) (hsz : ms.length = xs.size) (hok : (List.range ms.length).all (okOne P F N xs ms as) = true) (h : Region.ready .any xs L = []) : ∀ i, i < xs.size → L.getD i false = true := by
  intro i
  induction i using Nat.strongRecOn with
  | _ i ih =>
    intro hi
    cases hq : L.getD i false with
    | true => rfl
    | false =>
      exfalso
      have hone : okOne P F N xs ms as i = true := by
        simp only [List.all_eq_true, List.mem_range] at hok
        exact hok i (by omega)
      unfold okOne at hone
      split at hone
      · rename_i m a x e1 e2 e3
        simp only [Bool.and_eq_true] at hone
        have hbef := hone.1.2
        have : i ∈ Region.ready .any xs L := by
          rw [mem_ready]
          refine ⟨?_, x, e3, fun e he hb => ?_⟩
          · have hlt : i < L.size := by omega
            simp [hlt] at hq ⊢; exact hq
          · rw [Array.all_eq_true_iff_forall_mem] at hbef
            have := hbef e he
            rw [hb] at this
            simp at this
            exact ih e.on this (by omega)
        rw [h] at this; simp at this
      · cases hone
theorem draw_any (hcf : CallOk P F cf) (hsz : ms.length = xs.size) (hok : (List.range ms.length).all (okOne P F N xs ms as) = true)
    (hes : ∀ j m, ms[j]? = some m → ∃ a e, as[j]? = some a ∧ es[j]? = some e ∧ entOf cf nb j m (appT (fun q => decide (q < j)) 0 es t0) (appO (fun q => decide (q < j)) 0 es o0) = some e ∧ (∀ j' e', j' < j → es[j']? = some e' → a.contains j' = true ∨ e.apart e' = true))
    (hlen : es.length = ms.length) {Q : Exit → Act → World → Prop}
    (hq : ∀ E' a' w', Rel F Pr w0 lb N E' (fun k => k < nb + 16 * ms.length) (appT (fun _ => true) 0 es t0) (appO (fun _ => true) 0 es o0) a' w' → Q .normal a' w') :
    ∀ (fuel : Nat) (L : Array Bool) {E : Nat → Option Loc} {a : Act} {w : World}, L.size = xs.size → ((List.range xs.size).filter fun i => !L.getD i false).length ≤ fuel →
      (∀ i b, as[i]? = some b → L.getD i false = true → ∀ j ∈ b, L.getD j false = true) →
      Rel F Pr w0 lb N E (NS nb fun j => L.getD j false) (appT (fun j => L.getD j false) 0 es t0) (appO (fun j => L.getD j false) 0 es o0) a w → wpAny P .any xs Q fuel L a w := by
  have done : ∀ (L : Array Bool) {E : Nat → Option Loc} {a : Act} {w : World}, L.size = xs.size → (∀ i, i < xs.size → L.getD i false = true) →
      Rel F Pr w0 lb N E (NS nb fun j => L.getD j false) (appT (fun j => L.getD j false) 0 es t0) (appO (fun j => L.getD j false) 0 es o0) a w → Q .normal a w := by
    intro L E a w hL hall R
    have e1 : appT (fun j => L.getD j false) 0 es t0 = appT (fun _ => true) 0 es t0 := appT_ext fun j hj => by rw [Nat.zero_add]; exact hall j (by omega)
    have e2 : appO (fun j => L.getD j false) 0 es o0 = appO (fun _ => true) 0 es o0 := appO_ext fun j hj => by rw [Nat.zero_add]; exact hall j (by omega)
    rw [e1, e2] at R
    refine hq E a w (R.n_mono ?_)
    rintro k (h | ⟨i, h1, h2, h3⟩)
    · omega
    · have : i < L.size := by
        rcases Nat.lt_or_ge i L.size with q | q
        · exact q
        · simp [Array.getElem?_eq_none q] at h1
      omega
  intro fuel
  induction fuel with
  | zero =>
    intro L E a w hL hcount hdown R
    have hall : ∀ i, i < xs.size → L.getD i false = true := by
      intro i hi
      cases hx : L.getD i false with
      | true => rfl
      | false =>
        exfalso
        have : i ∈ (List.range xs.size).filter fun i => !L.getD i false := by
          rw [List.mem_filter, List.mem_range]; exact ⟨hi, by rw [hx]; rfl⟩
        have hlen0 := List.length_pos_of_mem this
        omega
    refine ⟨?_, done L hL hall R⟩
    cases hr : Region.ready .any xs L with
    | nil => rfl
    | cons i rest =>
      exfalso
      have hi : i ∈ Region.ready .any xs L := by rw [hr]; exact List.mem_cons_self ..
      rw [mem_ready] at hi
      obtain ⟨h0, o, ho, _⟩ := hi
      have hlt : i < xs.size := (Array.getElem?_eq_some_iff.1 ho).1
      have h1 := hall i hlt
      have hlt2 : i < L.size := by omega
      simp [hlt2] at h0 h1
      rw [h0] at h1; cases h1
  | succ fuel ih =>
    intro L E a w hL hcount hdown R
    refine ⟨fun hr => done L hL (ready_nil hL hsz hok hr) R, ?_⟩
    intro i hi
    rw [mem_ready] at hi
    obtain ⟨h0, x, hx, hedges⟩ := hi
    have hlt : i < xs.size := (Array.getElem?_eq_some_iff.1 hx).1
    have hlt2 : i < L.size := by omega
    have hSi : L.getD i false = false := by simp [hlt2] at h0 ⊢; exact h0
    have hone : okOne P F N xs ms as i = true := by
      simp only [List.all_eq_true, List.mem_range] at hok
      exact hok i (by omega)
    unfold okOne at hone
    split at hone
    rotate_left
    · cases hone
    rename_i m b x' hm hb hx'
    rw [hx] at hx'; cases hx'
    simp only [Bool.and_eq_true] at hone
    obtain ⟨⟨⟨⟨hmop, hlt0⟩, hjust⟩, hbef⟩, _⟩ := hone
    obtain ⟨b', e, hb', he, hent, _⟩ := hes i m hm
    have hanc : ∀ a, as[i]? = some a → ∀ j ∈ a, L.getD j false = true := by
      intro a ha j hj
      rw [hb] at ha; cases ha
      simp only [List.all_eq_true] at hjust
      have := hjust j hj
      rw [← Array.any_toList, List.any_eq_true] at this
      obtain ⟨ed, hed, hed2⟩ := this
      have hed := Array.mem_def.2 hed
      simp only [Bool.and_eq_true, Bool.or_eq_true, beq_iff_eq] at hed2
      have hon := hedges ed hed hed2.1
      rcases hed2.2 with q | q
      · rw [← q]; exact hon
      · split at q
        · rename_i c hc
          exact hdown ed.on c hc hon j (by simpa using q)
        · cases q
    obtain ⟨k1, k2, k3, k4⟩ := draw_step hok hes hlen hm he hSi hanc (fun j a ha hj k hk => hdown j a ha hj k hk)
    have hS' : (fun j => (L.setIfInBounds i true).getD j false) = with1 (fun j => L.getD j false) i := by
      funext j
      simp only [with1]
      by_cases hji : j = i
      · subst hji; simp [hlt2]
      · rw [getD_set_ne false (fun q => hji q.symm)]
        have : (j == i) = false := by simp [hji]
        rw [this, Bool.or_false]
    simp only [okMop, Bool.and_eq_true, beq_iff_eq] at hmop
    obtain ⟨⟨⟨hdst, hN⟩, hg⟩, hact⟩ := hmop
    have hed := ent_dst hent
    have hN' : ∀ d, e.dst = some d → d < N := by
      intro d hd
      rw [hed, hdst] at hd
      rw [hd] at hN
      simpa using hN
    -- what is left
    have next : ∀ E' a' w', Rel F Pr w0 lb N E' (NS nb (with1 (fun j => L.getD j false) i)) (setT (appT (fun j => L.getD j false) 0 es t0) e.dst e.v) (e.ups ++ appO (fun j => L.getD j false) 0 es o0) a' w' → wpAny P .any xs Q fuel (L.setIfInBounds i true) a' w' := by
      intro E' a' w' R'
      refine ih (L.setIfInBounds i true) (by simpa using hL) ?_ ?_ ?_ (E := E')
      · have hsub : ((List.range xs.size).filter fun j => !(L.setIfInBounds i true).getD j false).length < ((List.range xs.size).filter fun j => !L.getD j false).length := by
          have e1 : ((List.range xs.size).filter fun j => !(L.setIfInBounds i true).getD j false) = ((List.range xs.size).filter fun j => !L.getD j false).filter fun j => !(j == i) := by
            rw [List.filter_filter]
            congr 1
            funext j
            have := congrFun hS' j
            rw [this]
            simp [with1, Bool.and_comm]
          rw [e1]
          have hmem : i ∈ (List.range xs.size).filter fun j => !L.getD j false := by
            rw [List.mem_filter, List.mem_range]; exact ⟨hlt, by rw [hSi]; rfl⟩
          exact List.length_filter_lt_length_iff_exists.2 ⟨i, hmem, by simp⟩
        omega
      · intro j c hc hj k hk
        have hj' : with1 (fun j => L.getD j false) i j = true := by rw [← hS']; exact hj
        have : with1 (fun j => L.getD j false) i k = true := by
          simp only [with1, Bool.or_eq_true, beq_iff_eq] at hj' ⊢
          rcases hj' with q | q
          · exact .inl (hdown j c hc q k hk)
          · subst q; exact .inl (hanc c hc k hk)
        rw [← hS'] at this; exact this
      · rw [hS']
        exact R'.geteq k3 k4
    show wpOp P xs Q i (wpAny P .any xs Q fuel (L.setIfInBounds i true)) a w
    unfold wpOp
    rw [hx]
    simp only
    have hwant : wanted (appT (fun j => L.getD j false) 0 es t0) m.guard = wanted (appT (fun q => decide (q < i)) 0 es t0) m.guard := by
      cases hgm : m.guard with
      | none => rfl
      | some gb =>
        obtain ⟨g, bb⟩ := gb
        simp only [wanted]
        rw [k1 g (by simp [readsT, guardT, hgm])]
    unfold entOf at hent
    split at hent
    · rename_i hw
      rw [if_pos (wanted_ok R hg (by rw [hwant]; exact hw))]
      rw [Option.map_eq_some_iff] at hent
      obtain ⟨r, hr, rfl⟩ := hent
      have hr2 : act cf (nb + 16 * i) (m.dst.getD 0) (appT (fun j => L.getD j false) 0 es t0) (appO (fun j => L.getD j false) 0 es o0) m.op = some (r.1, r.2) := by
        rw [act_t (t := appT (fun q => decide (q < i)) 0 es t0) (fun k hk => k1 k (by simp [readsT, hk]))]
        refine act_sub (fun id ob hg => ?_) hr
        rw [k2 id (get_keep_mem _ _ hg)]
        exact get_keep _ _ hg
      refine .inl (act_ok R (fr_NS hSi) hcf hact hr2 ?_)
      intro E' val w' R' hv
      have z := next E' _ w' (R'.put (dst := m.dst) (by simpa using hN') hv)
      rw [hdst] at z; exact z
    · rename_i hw
      rw [if_neg (by rw [wanted_ok R hg (by rw [hwant]; exact hw)]; simp)]
      cases hent
      have R2 := (R.n_mono (fr_NS hSi).old).put (dst := m.dst) (v := .undef) (val := undef) (by simpa using hN') (.undef _ (by intro b h; cases h))
      have z := next E _ w R2
      rw [hdst] at z; exact z
    · cases hent
end
end Mx

namespace Mx
open Go
variable {P : Program} {F : Nat → FuncId} {Pr : Nat → Prop} {w0 : World} {lb : Lb} {N : Nat} {E : Nat → Option Loc} {n : Nat → Prop} {t : List (Nat × V)} {o : List (Nat × Ob)} {a : Act} {w : World}
def okMops (P : Program) (F : Nat → FuncId) (N : Nat) (ops : Array Oper) : List Mop → List Oper → Bool
  | [], [] => true
  | m :: ms, x :: xs => okMop P F N ops m x && okMops P F N ops ms xs
  | _, _ => false
theorem fr_next (nb i : Nat) : Fr (fun k => k < nb + 16 * i) (nb + 16 * i) (fun k => k < nb + 16 * (i + 1)) :=
  ⟨fun k h1 h2 h3 => by omega, fun k h => by omega, fun k h1 h2 => by omega⟩
theorem steps_ok {cf : CallF} (hcf : CallOk P F cf) {ops : Array Oper} {Q : Exit → Act → World → Prop} {nb : Nat} : ∀ {i : Nat} {ms : List Mop} {xs : List Oper} {E : Nat → Option Loc} {t : List (Nat × V)} {o : List (Nat × Ob)} {a : Act} {w : World} {t' : List (Nat × V)} {o' : List (Nat × Ob)},
    Rel F Pr w0 lb N E (fun k => k < nb + 16 * i) t o a w → okMops P F N ops ms xs = true → steps cf nb i ms t o = some (t', o') →
    (∀ E' a' w', Rel F Pr w0 lb N E' (fun k => k < nb + 16 * (i + ms.length)) t' o' a' w' → Q .normal a' w') → wpList P ops Q xs a w
  | i, [], [], E, t, o, a, w, t', o', R, _, h, hq => by
    simp only [steps, Option.some.injEq, Prod.mk.injEq] at h
    obtain ⟨rfl, rfl⟩ := h
    exact hq E a w R
  | i, m :: ms, x :: xs, E, t, o, a, w, t', o', R, hok, h, hq => by
    simp only [okMops, okMop, Bool.and_eq_true, beq_iff_eq] at hok
    obtain ⟨⟨⟨⟨hdst, hN⟩, hg⟩, hact⟩, hrest⟩ := hok
    have hN' : ∀ d, x.dst = some d → d < N := by
      intro d hd
      rw [hd] at hN
      simpa using hN
    simp only [steps] at h
    split at h
    · rename_i t1 o1 hs
      have hq' : ∀ E' a' w', Rel F Pr w0 lb N E' (fun k => k < nb + 16 * (i + 1 + ms.length)) t' o' a' w' → Q .normal a' w' := by
        intro E' a' w' R'
        exact hq E' a' w' (by rw [List.length_cons, show i + (ms.length + 1) = i + 1 + ms.length from by omega]; exact R')
      unfold wpList
      unfold step at hs
      split at hs
      · rename_i hw
        rw [if_pos (wanted_ok R hg hw)]
        simp only [Option.map_eq_some_iff, Prod.mk.injEq] at hs
        obtain ⟨r, hr, rfl, rfl⟩ := hs
        refine .inl (act_ok R (fr_next nb i) hcf hact hr ?_)
        intro E' val w' R' hv
        refine steps_ok hcf (i := i + 1) (R'.put (dst := m.dst) (by rw [hdst]; exact hN') hv) hrest h hq' |> fun z => ?_
        rw [hdst] at z; exact z
      · rename_i hw
        rw [if_neg (by rw [wanted_ok R hg hw]; simp)]
        simp only [Option.some.injEq, Prod.mk.injEq] at hs
        obtain ⟨rfl, rfl⟩ := hs
        have R2 := (R.same rfl rfl rfl rfl (n' := fun k => k < nb + 16 * (i + 1)) (fun k h => by omega)).put (dst := m.dst) (v := .undef) (val := undef) (by rw [hdst]; exact hN') (.undef _ (by intro b h; cases h))
        have z := steps_ok hcf (i := i + 1) R2 hrest h hq'
        rw [hdst] at z; exact z
      · cases hs
    · cases h
  | _, [], _ :: _, _, _, _, _, _, _, _, _, hok, _, _ => by simp [okMops] at hok
  | _, _ :: _, [], _, _, _, _, _, _, _, _, hok, _, _ => by simp [okMops] at hok
/-- does this small code stand for that code? -/
def sim (P : Program) (F : Nat → FuncId) (N : Nat) : C → Code → Bool
  | .skip, .skip => true
  | .reg ops _ _, .region _ xs false => okMops P F N xs ops xs.toList
  | .regd ops anc _ _, .region _ xs true => okDraw P F N xs ops anc
  | .seq a b, .seq c d => sim P F N a c && sim P F N b d
  | .cond x a b, .cond y c d => okO F x y && sim P F N a c && sim P F N b d
  | .block id a, .block id' c => id == id' && sim P F N a c
  | .loop a, .loop c => sim P F N a c
  | .exit id, .exit id' => id == id'
  | .ret, .ret => true
  | .shut _ a, c => sim P F N a c
  | _, _ => false
def exitOf : Out → Exit
  | .normal => .normal
  | .exit id => .exit id
  | .ret => .ret
theorem exC_ok {cf : CallF} (hcf : CallOk P F cf) (k : Nat) : ∀ (c : C) (c' : Code) (_hs : sim P F N c c' = true) {Q : Exit → Act → World → Prop} {s s' : St} {out : Out} {E : Nat → Option Loc} {a : Act} {w : World},
    Rel F Pr w0 lb N E (fun k => k < s.n) s.t s.o a w → exC cf k c s = some (out, s') →
    (∀ E' a' w', Rel F Pr w0 lb N E' (fun k => k < s'.n) s'.t s'.o a' w' → Q (exitOf out) a' w') → c'.wp P Q a w := by
  intro c
  induction c with
  | skip =>
    intro c' hs Q s s' out E a w R h hq
    cases c' <;> first | (simp [sim] at hs; done) | skip
    simp only [exC, Option.some.injEq, Prod.mk.injEq] at h
    obtain ⟨rfl, rfl⟩ := h
    exact wp_skip (hq E a w R)
  | reg ops kt ko =>
    intro c' hs Q s s' out E a w R h hq
    cases c' with
    | region id xs draw =>
      cases draw with
      | true => simp [sim] at hs
      | false =>
        simp only [sim] at hs
        simp only [exC, Option.map_eq_some_iff, Prod.mk.injEq] at h
        obtain ⟨r, hr, rfl, rfl⟩ := h
        refine wp_region_list (steps_ok (i := 0) hcf R hs hr ?_)
        intro E' a' w' R'
        exact hq E' a' w' (by simpa using R'.keep kt ko)
    | _ => simp [sim] at hs
  | regd ops anc kt ko =>
    intro c' hs Q s s' out E a w R h hq
    cases c' with
    | region id xs draw =>
      cases draw with
      | false => simp [sim] at hs
      | true =>
        simp only [sim, okDraw, Bool.and_eq_true, beq_iff_eq] at hs
        obtain ⟨⟨hm, hsz⟩, hok⟩ := hs
        simp only [exC, Option.map_eq_some_iff, Prod.mk.injEq] at h
        obtain ⟨r, hr, rfl, rfl⟩ := h
        obtain ⟨es, hlen, rfl, hes⟩ := stepsD_ents hr
        have z : ∀ (es : List Ent) (i : Nat) (t : List (Nat × V)), appT (fun j => (Array.replicate xs.size false).getD j false) i es t = t := by
          intro es
          induction es with
          | nil => intro i t; rfl
          | cons e es ih => intro i t; simp only [appT]; rw [if_neg (by simp [Array.getElem?_replicate]; split <;> simp)]; exact ih _ _
        have z2 : ∀ (es : List Ent) (i : Nat) (t : List (Nat × Ob)), appO (fun j => (Array.replicate xs.size false).getD j false) i es t = t := by
          intro es
          induction es with
          | nil => intro i t; rfl
          | cons e es ih => intro i t; simp only [appO]; rw [if_neg (by simp [Array.getElem?_replicate]; split <;> simp)]; exact ih _ _
        refine wp_region_any hm (draw_any (E := E) hcf hsz hok (fun j m hj => ?_) hlen (fun E' a' w' R' => hq E' a' w' (R'.keep kt ko)) xs.size _ (by simp) (Nat.le_trans (List.length_filter_le _ _) (by simp)) ?_ ?_)
        · obtain ⟨a', e, q1, q2, q3, _, q5⟩ := hes j m hj
          refine ⟨a', e, q1, q2, ?_, fun j' e' h1 h2 => ?_⟩
          · simpa only [Nat.zero_add] using q3
          · have := q5 j' e' h1 h2
            simpa only [Nat.zero_add] using this
        · intro i b _ hi
          exfalso
          revert hi
          simp [Array.getElem?_replicate]
          split <;> simp
        · rw [z, z2]
          exact Rel.same (w' := { w with drawn := w.drawn + 1 }) (n' := NS s.n fun j => (Array.replicate xs.size false).getD j false) R rfl rfl rfl rfl (fun k hk => Or.inl hk)
    | _ => simp [sim] at hs
  | seq x y ihx ihy =>
    intro c' hs Q s s' out E a w R h hq
    cases c' <;> first | (simp [sim] at hs; done) | skip
    simp only [sim, Bool.and_eq_true] at hs
    simp only [exC] at h
    split at h
    · rename_i s1 h1
      exact wp_seq (ihx _ hs.1 R h1 fun E' a' w' R' => ihy _ hs.2 R' h hq)
    · rename_i hne
      refine wp_seq (ihx _ hs.1 R h fun E' a' w' R' => ?_)
      cases out with
      | normal => exact (hne _ h).elim
      | exit id => exact hq E' a' w' R'
      | ret => exact hq E' a' w' R'
  | cond x y z ihy ihz =>
    intro c' hs Q s s' out E a w R h hq
    cases c' <;> first | (simp [sim] at hs; done) | skip
    simp only [sim, Bool.and_eq_true] at hs
    simp only [exC] at h
    split at h
    · rename_i hb; exact wp_cond (lookB_rep R hs.1.1 hb) (ihy _ hs.1.2 R h hq)
    · rename_i hb; exact wp_cond (lookB_rep R hs.1.1 hb) (ihz _ hs.2 R h hq)
    · cases h
  | block id x ih =>
    intro c' hs Q s s' out E a w R h hq
    cases c' <;> first | (simp [sim] at hs; done) | skip
    simp only [sim, Bool.and_eq_true, beq_iff_eq] at hs
    obtain ⟨rfl, hs⟩ := hs
    simp only [exC] at h
    split at h
    · rename_i id' s1 h1
      simp only [Option.some.injEq] at h
      refine wp_block (ih _ hs R h1 fun E' a' w' R' => ?_)
      simp only [exitOf, Exit.inBlock]
      split at h
      · rename_i e
        simp only [Prod.mk.injEq] at h
        obtain ⟨rfl, rfl⟩ := h
        rw [if_pos e]; exact hq E' a' w' R'
      · rename_i e
        simp only [Prod.mk.injEq] at h
        obtain ⟨rfl, rfl⟩ := h
        rw [if_neg e]; exact hq E' a' w' R'
    · rename_i hne
      refine wp_block (ih _ hs R h fun E' a' w' R' => ?_)
      cases out with
      | normal => exact hq E' a' w' R'
      | exit id' => exact (hne _ _ h).elim
      | ret => exact hq E' a' w' R'
  | loop x ih =>
    intro c' hs Q s s' out E a w R h hq
    cases c' <;> first | (simp [sim] at hs; done) | skip
    rename_i body
    simp only [sim] at hs
    simp only [exC] at h
    refine wp_loop_rounds k ?_
    have key : ∀ (m : Nat) {s : St} {E : Nat → Option Loc} {a : Act} {w : World}, Rel F Pr w0 lb N E (fun k => k < s.n) s.t s.o a w → loopN (exC cf k x) m s = some (out, s') → Code.rounds P body Q m a w := by
      intro m
      induction m with
      | zero => intro s E a w R h; simp [loopN] at h
      | succ m ihm =>
        intro s E a w R h
        rw [rounds_succ]
        simp only [loopN] at h
        split at h
        · rename_i s1 h1
          exact ih _ hs R h1 fun E' a' w' R' => ihm R' h
        · rename_i hne
          refine ih _ hs R h fun E' a' w' R' => ?_
          cases out with
          | normal => exact (hne _ h).elim
          | exit id => exact hq E' a' w' R'
          | ret => exact hq E' a' w' R'
    exact key k R h
  | exit id =>
    intro c' hs Q s s' out E a w R h hq
    cases c' <;> first | (simp [sim] at hs; done) | skip
    simp only [sim, beq_iff_eq] at hs
    subst hs
    simp only [exC, Option.some.injEq, Prod.mk.injEq] at h
    obtain ⟨rfl, rfl⟩ := h
    exact wp_exit (hq E a w R)
  | ret =>
    intro c' hs Q s s' out E a w R h hq
    cases c' <;> first | (simp [sim] at hs; done) | skip
    simp only [exC, Option.some.injEq, Prod.mk.injEq] at h
    obtain ⟨rfl, rfl⟩ := h
    exact wp_ret (hq E a w R)
  | shut ids x ih =>
    intro c' hs Q s s' out E a w R h hq
    have hs' : sim P F N x c' = true := by rw [sim] at hs; exact hs
    simp only [exC] at h
    exact ih c' hs' (R.shut ids) h hq
end Mx

namespace Mx
open Go
variable {P : Program} {F : Nat → FuncId} {Pr : Nat → Prop} {w0 : World} {lb : Lb} {N : Nat} {E : Nat → Option Loc} {n : Nat → Prop} {t : List (Nat × V)} {o : List (Nat × Ob)} {a : Act} {w : World}
def okR (P : Program) : List R → List ResultVar → Bool
  | [], [] => true
  | .tmp x :: rs, .tmp y :: qs => x == y && okR P rs qs
  | .cell x agg k :: rs, .cell y ty :: qs => x == y && (tAgg P ty == some agg) && (tSize P ty == some k) && okR P rs qs
  | _, _ => false
theorem run_loadVar_agg {ty : TypeId} {ad : Addr} {cs : List Value} (ha : tAgg P ty = some true) (hs : tSize P ty = some cs.length)
    (h : ∀ (q : Nat) (v : Value), cs[q]? = some v → w.cell? (ad.add q) = some v) : (loadVar ty ad).run P w = .ok (.agg cs.toArray) w := by
  simp only [loadVar, Sem.run_bind, Result.andThen_ok, run_isAggM ha, if_true, run_sizeOfM hs]
  rw [run_loadCells_list w ad cs h]
  simp
theorem run_loadVar_one {ty : TypeId} {ad : Addr} {v : Value} (ha : tAgg P ty = some false) (h : w.cell? ad = some v) : (loadVar ty ad).run P w = .ok v w := by
  simp [loadVar, run_isAggM ha, h]
def oneResult (tmps : Array Value) : ResultVar → Sem Value
  | .tmp t => pure (tmps.getD t undef)
  | .cell a t => do loadVar t (← asAddr (tmps.getD a undef))
theorem one_result (R : Rel F Pr w0 lb N E n t o a w) {r : Mx.R} {q : ResultVar} (hok : okR P [r] [q] = true) {v : V} (h : resV t o r = some v) : ∃ x, (oneResult a.tmps q).run P w = .ok x w ∧ RepV (cx F Pr E o w) v x := by
  cases r with
  | tmp d =>
    cases q with
    | tmp d' =>
      simp only [okR, Bool.and_true, beq_iff_eq] at hok
      subst hok
      exact ⟨_, rfl, R.tmps d v h⟩
    | cell => simp [okR] at hok
  | cell d agg k =>
    cases q with
    | tmp => simp [okR] at hok
    | cell d' ty =>
      simp only [okR, Bool.and_true, Bool.and_eq_true, beq_iff_eq] at hok
      obtain ⟨⟨rfl, ha⟩, hs⟩ := hok
      simp only [resV] at h
      split at h
      · rename_i x hx
        split at h
        · rename_i r j hp
          obtain ⟨ad, hv, hcells⟩ := place_rep R (R.tmps d _ hx).c_inv hp
          have hrun : ∀ val, (loadVar ty ad).run P w = .ok val w → (oneResult a.tmps (.cell d ty)).run P w = .ok val w := by
            intro val hl
            simp [oneResult, hv, asAddr, hl]
          split at h
          · rename_i hagg
            subst hagg
            split at h
            · rename_i hk
              cases h
              obtain ⟨cs, hl, hrep, hc⟩ := rows_list (X := cx F Pr E o w) hcells hk
              exact ⟨_, hrun _ (run_loadVar_agg ha (by rw [hl]; exact hs) hc), .ofL hrep⟩
            · cases h
          · rename_i hagg
            have hagg' : agg = false := by cases agg <;> simp_all
            subst hagg'
            rw [Option.map_eq_some_iff] at h
            obtain ⟨c, hc, rfl⟩ := h
            obtain ⟨u, hu, hr⟩ := hcells 0 c (by simpa using hc)
            rw [add_zero] at hu
            exact ⟨u, hrun _ (run_loadVar_one ha hu), .c _ _ hr⟩
        · cases h
      · cases h
theorem all_results (R : Rel F Pr w0 lb N E n t o a w) : ∀ {rs : List Mx.R} {qs : List ResultVar} {vs : List V}, okR P rs qs = true → mapO (resV t o) rs = some vs →
    ∃ xs : List Value, (qs.mapM (oneResult a.tmps)).run P w = .ok xs w ∧ vs.length = xs.length ∧ ∀ (i : Nat) (v : V) (x : Value), vs[i]? = some v → xs[i]? = some x → RepV (cx F Pr E o w) v x
  | [], [], vs, _, h => by simp [mapO] at h; subst h; exact ⟨[], rfl, rfl, fun i v x h => by simp at h⟩
  | r :: rs, q :: qs, vs, hok, h => by
    simp only [mapO] at h
    split at h
    · rename_i v vs' h1 h2
      cases h
      have hok2 : okR P [r] [q] = true ∧ okR P rs qs = true := by
        cases r <;> cases q <;> simp_all [okR]
      obtain ⟨x, hx, hr⟩ := one_result R hok2.1 h1
      obtain ⟨xs, hxs, hl, hrs⟩ := all_results R hok2.2 h2
      refine ⟨x :: xs, by simp [List.mapM_cons, hx, hxs], by simp [hl], fun i u z hu hz => ?_⟩
      cases i with
      | zero => simp at hu hz; subst hu hz; exact hr
      | succ i => exact hrs i u z (by simpa using hu) (by simpa using hz)
    · cases h
  | [], _ :: _, _, hok, _ => by simp [okR] at hok
  | r :: _, [], _, hok, _ => by cases r <;> simp [okR] at hok
theorem run_results {fn : Func} {tmps : Array Value} {xs : List Value} (h : (fn.results.toList.mapM (oneResult tmps)).run P w = .ok xs w) :
    (results fn tmps).run P w = .ok (if h : xs.length = 1 then xs[0] else .tuple xs.toArray) w := by
  have hr : results fn tmps = (do
    let vs ← fn.results.mapM (oneResult tmps)
    pure (if h : vs.size = 1 then vs[0] else .tuple vs)) := rfl
  rw [hr, Array.mapM_eq_mapM_toList]
  simp [h]
theorem lentFin_ok {o : List (Nat × Ob)} : ∀ {lent after : List (Nat × Ob)}, lentFin o lent = some after → ∀ p ob, get lent p = some ob → ∃ b b', get o p = some b ∧ b.ver = p ∧ b.w = true ∧ get after p = some b' ∧
    (b' = b ∧ b.bx = false ∨ ∃ rows, mapO (fun r => mapO (cl o) r) b.rows = some rows ∧ b' = { b with rows := rows })
  | [], _, _, p, ob, hg => by simp [get] at hg
  | (p', ob') :: lent, after, h, p, ob, hg => by
    simp only [lentFin] at h
    split at h
    · rename_i b l' hb hl
      split at h
      · rename_i hc
        by_cases e : p = p'
        · subst e
          split at h
          · rw [Option.map_eq_some_iff] at h
            obtain ⟨rows, hm, rfl⟩ := h
            exact ⟨b, _, hb, hc.1, hc.2, get_cons_self _ _ _, .inr ⟨rows, hm, rfl⟩⟩
          · rename_i hbx
            cases h
            exact ⟨b, b, hb, hc.1, hc.2, get_cons_self _ _ _, .inl ⟨rfl, by simpa using hbx⟩⟩
        · rw [get_cons_ne e] at hg
          obtain ⟨b1, b2, g1, g2, g3, g4, g5⟩ := lentFin_ok hl p ob hg
          split at h
          · rw [Option.map_eq_some_iff] at h
            obtain ⟨rows, hm, rfl⟩ := h
            exact ⟨b1, b2, g1, g2, g3, by rw [get_cons_ne e]; exact g4, g5⟩
          · cases h
            exact ⟨b1, b2, g1, g2, g3, by rw [get_cons_ne e]; exact g4, g5⟩
      · cases h
    · cases h
def ownOf (E : Nat → Option Loc) (o : List (Nat × Ob)) (np : Nat) (raw : List T) (q : Nat) : Option Loc :=
  match raw[q]? with
  | some (.row id _ _ _) => if lentId np id then none else (match get o id with | some b => if b.w then E b.ver else none | none => none)
  | some (.ptr id _ _ _) => if lentId np id then none else (match get o id with | some b => if b.w then E b.ver else none | none => none)
  | some (.nils _) => some .nil
  | _ => none
def ownId (np : Nat) (o : List (Nat × Ob)) : T → List Nat
  | .row id _ _ _ => if lentId np id then [] else (match get o id with | some b => if b.w then [id] else [] | none => [])
  | .ptr id _ _ _ => if lentId np id then [] else (match get o id with | some b => if b.w then [id] else [] | none => [])
  | _ => []
theorem ownOf_blk {np q b cap sz : Nat} {raw : List T} (h : ownOf E o np raw q = some (.blk b cap sz)) : ∃ x id ob, raw[q]? = some x ∧ ownId np o x = [id] ∧ lentId np id = false ∧ get o id = some ob ∧ ob.w = true ∧ E ob.ver = some (.blk b cap sz) := by
  unfold ownOf at h
  split at h
  · rename_i id ver off len hq
    split at h
    · cases h
    · rename_i hnp
      split at h
      · rename_i ob hg
        split at h
        · rename_i hw
          exact ⟨_, id, ob, hq, by simp [ownId, hnp, hg, hw], by simpa using hnp, hg, hw, h⟩
        · cases h
      · cases h
  · rename_i id ver off len hq
    split at h
    · cases h
    · rename_i hnp
      split at h
      · rename_i ob hg
        split at h
        · rename_i hw
          exact ⟨_, id, ob, hq, by simp [ownId, hnp, hg, hw], by simpa using hnp, hg, hw, h⟩
        · cases h
      · cases h
  · cases h
  · cases h
theorem flatMap_inj {α : Type} {g : α → List Nat} : ∀ {l : List α}, (l.flatMap g).Nodup → ∀ {i j : Nat} {x y : α} {k : Nat}, l[i]? = some x → l[j]? = some y → k ∈ g x → k ∈ g y → i = j
  | [], _, i, _, _, _, _, h, _, _, _ => by simp at h
  | z :: l, hn, i, j, x, y, k, hi, hj, hx, hy => by
    simp only [List.flatMap_cons, List.nodup_append] at hn
    obtain ⟨h1, h2, h3⟩ := hn
    cases i with
    | zero =>
      cases j with
      | zero => rfl
      | succ j =>
        simp at hi hj
        subst hi
        exact (h3 k hx k (List.mem_flatMap.2 ⟨y, List.mem_of_getElem? hj, hy⟩) rfl).elim
    | succ i =>
      cases j with
      | zero =>
        simp at hi hj
        subst hj
        exact (h3 k hy k (List.mem_flatMap.2 ⟨x, List.mem_of_getElem? hi, hx⟩) rfl).elim
      | succ j => rw [flatMap_inj h2 (i := i) (j := j) (by simpa using hi) (by simpa using hj) hx hy]
section fin
variable {X : Cx} {np : Nat} {raw : List T} {lent : List (Nat × Ob)} (R : Rel F Pr w0 lb N E n t o a w) (K : Keeps (cx F Pr E o w) X) (hw : X.w = w)
  (hl : ∀ p ob, get lent p = some ob → ∃ b, get o p = some b ∧ b.ver = p)
include R K hw hl
theorem finT_ok {q : Nat} {x y : T} {v : Value} (hq : raw[q]? = some x) (h : finT np o x = some y) (hr : Rep (cx F Pr E o w) x v) : ResT X (ownOf E o np raw) lent q y v := by
  cases x with
  | int k m => simp [finT] at h; subst h; cases hr; exact .int _ _
  | bool b => simp [finT] at h; subst h; cases hr; exact .bool _
  | str s => simp [finT] at h; subst h; cases hr; exact .str _
  | nils sz =>
    simp [finT] at h; subst h; cases hr
    exact .own sz [] .nil (by simp [ownOf, hq]) ⟨rfl, rfl⟩
  | sl own sz rows =>
    simp [finT] at h; subst h
    cases hr with
    | sl _ _ _ A c vs h1 h2 h3 h4 h5 => exact .sh _ _ _ ((Rep.sl (X := cx F Pr E o w) false _ _ A c vs h1 h2 h3 h4 h5).mono K)
  | row id ver off len =>
    simp only [finT] at h
    split at h
    · rename_i b hg
      split at h
      · rename_i hc
        obtain ⟨hver, hbx, hfit⟩ := hc
        split at h
        · rename_i hlt
          cases h
          refine .row id ver off len v fun ob hob => ?_
          obtain ⟨b', h1, h2⟩ := hl id ob hob
          rw [hg] at h1; cases h1
          have : ver = id := by rw [← hver, h2]
          subst this
          exact hr.mono K
        · rename_i hge
          split at h
          · rename_i hc2
            cases h
            obtain ⟨_, l, hloc, hrl⟩ := R.objs id b hg
            have ho : ownOf E o np raw q = some l := by
              simp only [ownOf, hq, if_neg hge, hg, hc2.1, if_true]; exact hloc
            have hoff : off = 0 := by simpa using hc2.2
            subst hoff
            have hlen : (b.rows.take len).length = len := by simp; omega
            cases hr with
            | row _ _ _ _ cap sz bk hE' hl' ho' =>
              rw [hver] at hloc
              rw [show (cx F Pr E o w).E ver = E ver from rfl, hloc] at hE'
              cases hE'
              obtain ⟨e, hl0, hwid, hcl, cs, e1, fr, m1, m2, m3, m4⟩ := hrl
              subst e
              have := ResT.own (X := X) (lent := lent) (q := q) b.sz (b.rows.take len) (.blk bk cap b.sz) ho
                ⟨rfl, by simp only [hlen]; omega, width_take hwid, fun _ i j r t hi ht => hcl hbx i j r t (by rw [List.getElem?_take] at hi; split at hi; exact hi; cases hi) ht, cs, e1, fr, by rw [hw]; exact m1, m2, m3, fun i j r t hi ht => by
                  rw [List.getElem?_take] at hi
                  split at hi
                  · obtain ⟨v, q1, q2⟩ := m4 i j r t hi ht
                    exact ⟨v, q1, q2.mono K⟩
                  · cases hi⟩
              simp only [hlen, locV] at this
              simpa [add_zero] using this
            | rown _ _ hE' =>
              rw [hver] at hloc
              rw [show (cx F Pr E o w).E ver = E ver from rfl, hloc] at hE'
              cases hE'
              have := ResT.own (X := X) (lent := lent) (q := q) b.sz (b.rows.take 0) .nil ho ⟨by simp, rfl⟩
              simpa [locV] using this
          · split at h
            · cases h
            · rename_i hnw
              cases h
              exact .sh _ _ _ ((row_rep R hg hver hfit (by simpa using hnw) hbx hr).mono K)
      · cases h
    · cases h
  | ptr id ver i j =>
    simp only [finT] at h
    split at h
    · rename_i b hg
      split at h
      · rename_i hc
        obtain ⟨hver, hbw, hbx, rfl, rfl, hlt⟩ := hc
        split at h
        · rename_i r hrows
          rw [Option.map_eq_some_iff] at h
          obtain ⟨r', hm, rfl⟩ := h
          obtain ⟨_, l, hloc, hrl⟩ := R.objs id b hg
          have ho : ownOf E o np raw q = some l := by
            simp only [ownOf, hq, hlt, Bool.false_eq_true, if_false, hg, hbw, if_true]; exact hloc
          cases hr with
          | ptr _ _ _ _ bk cap sz hE' =>
            rw [hver] at hloc
            rw [show (cx F Pr E o w).E ver = E ver from rfl, hloc] at hE'
            cases hE'
            obtain ⟨e, hl0, hwid, hcl, cs, e1, fr, m1, m2, m3, m4⟩ := hrl
            subst e
            have hr0 : b.rows[0]? = some r := by rw [hrows]; rfl
            have hlen : r'.length = b.sz := by rw [mapO_length hm]; exact hwid 0 r hr0
            have key : ∀ (j : Nat) (t : T), r'[j]? = some t → ∃ v, cs[0 * b.sz + j]? = some v ∧ Rep (cx F Pr E o w) t v ∧ Closed t := by
              intro j t ht
              obtain ⟨t0, k3, k4⟩ := mapO_get hm ht
              obtain ⟨v, q1, q2⟩ := m4 0 j r t0 hr0 k3
              exact ⟨v, q1, cl_rep R k4 q2, cl_closed R k4 q2⟩
            have := ResT.box (X := X) (own := ownOf E o np raw) (lent := lent) (q := q) r' bk cap (by rw [hlen]; exact ho)
              ⟨rfl, by rw [hrows] at hl0; simpa using hl0, fun i r0 hi => by cases i with | zero => simp at hi; subst hi; rfl | succ i => simp at hi,
                fun hb => by simp at hb, cs, e1, fr, by rw [hw]; exact m1, by simp only [hlen]; exact m2, m3, fun i j r0 t hi ht => by
                  cases i with
                  | zero => simp at hi; subst hi; obtain ⟨v, q1, q2, _⟩ := key j t ht; exact ⟨v, by simpa using q1, q2.mono K⟩
                  | succ i => simp at hi⟩
              (fun j t ht => (key j t ht).choose_spec.2.2)
            simpa [add_zero] using this
        · cases h
      · cases h
    · cases h
  | vp => simp [finT] at h
  | fn => simp [finT] at h
theorem finL_ok : ∀ {q : Nat} {xs ys : List T} {vs : List Value}, (∀ (j : Nat) (x : T), xs[j]? = some x → raw[q + j]? = some x) → mapO (finT np o) xs = some ys → RepL (cx F Pr E o w) xs vs → ResL X (ownOf E o np raw) lent q ys vs
  | q, [], ys, vs, hq, h, hr => by
    simp [mapO] at h; subst h
    have := hr.1
    cases vs with
    | nil => trivial
    | cons => simp at this
  | q, x :: xs, ys, vs, hq, h, hr => by
    simp only [mapO] at h
    split at h
    · rename_i y ys' h1 h2
      cases h
      obtain ⟨v, vs', rfl, r1, r2⟩ := hr.uncons
      exact ⟨finT_ok R K hw hl (by simpa using hq 0 x (by simp)) h1 r1, finL_ok (fun j z hz => by rw [show q + 1 + j = q + (j + 1) from by omega]; exact hq (j + 1) z (by simpa using hz)) h2 r2⟩
    · cases h
theorem finV_ok {q : Nat} {x y : V} {v : Value} (hq : ∀ (j : Nat) (c : T), (x.cells.getD [])[j]? = some c → raw[q + j]? = some c) (h : V.fin np o x = some y) (hr : RepV (cx F Pr E o w) x v) :
    ResV X (ownOf E o np raw) lent q y v ∧ y.width = (x.cells.getD []).length := by
  cases hr with
  | c x v hr =>
    simp only [V.fin, Option.map_eq_some_iff] at h
    obtain ⟨y, hy, rfl⟩ := h
    exact ⟨finT_ok R K hw hl (by simpa using hq 0 x (by simp [V.cells])) hy hr, rfl⟩
  | a xs cs hn hr =>
    simp only [V.fin, Option.map_eq_some_iff] at h
    obtain ⟨ys, hy, rfl⟩ := h
    refine ⟨finL_ok R K hw hl (xs := xs) (by simpa [V.cells] using hq) hy ⟨by simpa using hn, fun i t v ht hv => hr i t v ht (by simpa using hv)⟩, ?_⟩
    simp [V.width, V.cells, mapO_length hy]
  | tup => simp [V.fin] at h
  | undef => simp [V.fin] at h
theorem finVs_ok : ∀ {q : Nat} {xs ys : List V} {vs : List Value}, (∀ (j : Nat) (c : T), (xs.flatMap fun x => x.cells.getD [])[j]? = some c → raw[q + j]? = some c) → mapO (V.fin np o) xs = some ys →
    xs.length = vs.length → (∀ (i : Nat) (x : V) (v : Value), xs[i]? = some x → vs[i]? = some v → RepV (cx F Pr E o w) x v) → ResVs X (ownOf E o np raw) lent q ys vs
  | q, [], ys, vs, hq, h, hn, hr => by
    simp [mapO] at h; subst h
    cases vs with
    | nil => trivial
    | cons => simp at hn
  | q, x :: xs, ys, vs, hq, h, hn, hr => by
    simp only [mapO] at h
    split at h
    · rename_i y ys' h1 h2
      cases h
      cases vs with
      | nil => simp at hn
      | cons v vs =>
        obtain ⟨k1, k2⟩ := finV_ok R K hw hl (q := q) (fun j c hc => hq j c (by rw [List.flatMap_cons, List.getElem?_append_left (List.getElem?_eq_some_iff.1 hc).1]; exact hc)) h1 (hr 0 x v (by simp) (by simp))
        refine ⟨k1, finVs_ok (fun j c hc => ?_) h2 (by simpa using hn) (fun i x v hx hv => hr (i + 1) x v (by simpa using hx) (by simpa using hv))⟩
        rw [k2, Nat.add_assoc]
        exact hq _ c (by rw [List.flatMap_cons, List.getElem?_append_right (by omega), Nat.add_sub_cancel_left]; exact hc)
    · cases h
end fin
end Mx

namespace Mx
open Go
variable {P : Program} {F : Nat → FuncId} {Pr : Nat → Prop} {w0 : World} {lb : Lb} {N : Nat} {E : Nat → Option Loc} {n : Nat → Prop} {t : List (Nat × V)} {o : List (Nat × Ob)} {a : Act} {w : World}
/-- does this small function stand for that one of the program? -/
def okFunc (P : Program) (F : Nat → FuncId) (f : Nat) (b : Fn) : Bool :=
  match P.funcs[F f]? with
  | some fn => (fn.name != "runtime.NumGoroutine") && decide (b.np ≤ fn.ntmps) && okR P b.res fn.results.toList && (match fn.body with | some c => sim P F fn.ntmps b.body c | none => false)
  | none => false
theorem get_zip_range : ∀ {m : Nat} {as : List V} {k d : Nat} {v : V}, get ((List.range' k m).zip as) d = some v → k ≤ d ∧ as[d - k]? = some v
  | 0, as, k, d, v, h => by simp [get] at h
  | m + 1, [], k, d, v, h => by simp [get] at h
  | m + 1, x :: as, k, d, v, h => by
    rw [List.range'_succ, List.zip_cons_cons] at h
    simp only [get] at h
    split at h
    · rename_i e; cases h; subst e; simp
    · obtain ⟨h1, h2⟩ := get_zip_range h
      refine ⟨by omega, ?_⟩
      rw [show d - k = (d - (k + 1)) + 1 from by omega]
      simpa using h2
def lbOf (lent : List (Nat × Ob)) (E0 : Nat → Option Loc) : Lb := ⟨LentB lent E0, E0⟩
theorem entry_rel {E0 : Nat → Option Loc} {as : List V} {lent : List (Nat × Ob)} {vals : Array Value} (En : Entry F Pr E0 as lent vals w) {m : Nat} (hm : as.length ≤ m) :
    Rel F Pr w (lbOf lent E0) m E0 (fun k => k < 2000000) ((List.range as.length).zip as) lent { tmps := vals ++ Array.replicate (m - vals.size) undef, defers := [] } w := by
  have hsz : vals.size = as.length := En.n.symm
  refine ⟨rfl, rfl, rfl, Nat.le_refl _, fun _ _ _ => rfl, rfl, by simp; omega, ?_, ?_, ?_, En.dist, En.fresh, En.pr, fun _ _ h => h⟩
  · intro d v hv
    rw [List.range_eq_range'] at hv
    obtain ⟨_, h2⟩ := get_zip_range hv
    simp only [Nat.sub_zero] at h2
    have hd : d < vals.size := by rw [hsz]; exact (List.getElem?_eq_some_iff.1 h2).1
    refine En.args d v _ h2 ?_
    rw [Array.getD_eq_getD_getElem?, Array.getElem?_append_left hd, Array.getElem?_eq_getElem hd, Option.getD_some]
  · intro id ob hg
    obtain ⟨h1, h2, h3, l, h4, h5⟩ := En.objs id ob hg
    exact ⟨by rw [h1]; exact h2.2, l, by rw [h1]; exact h4, h5⟩
  · intro id ob b cap sz hg hE
    exact ⟨En.place id ob b cap sz hg hE, .inr ⟨id, ob, cap, sz, hg, hE⟩⟩
theorem fin_back {E0 : Nat → Option Loc} {as : List V} {lent : List (Nat × Ob)} {vals : Array Value} (En : Entry F Pr E0 as lent vals w0) {np : Nat} (hnp : as.length = np) (R : Rel F Pr w0 (lbOf lent E0) N E n t o a w)
    {rs vs : List V} {after : List (Nat × Ob)} {xs : List Value} (hlf : lentFin o lent = some after) (hnd : (rs.flatMap (ownIds np o)).Nodup) (hfin : mapO (V.fin np o) rs = some vs)
    (hlen : rs.length = xs.length) (hrep : ∀ (i : Nat) (v : V) (x : Value), rs[i]? = some v → xs[i]? = some x → RepV (cx F Pr E o w) v x) :
    Back F Pr E0 lent w0 E (ownOf E o np (rs.flatMap fun x => x.cells.getD [])) (tupV vs) after (if h : xs.length = 1 then xs[0] else .tuple xs.toArray) w := by
  have hl : ∀ p ob, get lent p = some ob → ∃ b, get o p = some b ∧ b.ver = p := by
    intro p ob hg
    obtain ⟨b, _, h1, h2, _⟩ := lentFin_ok hlf p ob hg
    exact ⟨b, h1, h2⟩
  have hLB : ∀ bk, LentB lent E0 bk → ∃ p b cap sz, get o p = some b ∧ b.w = true ∧ lentId np p = true ∧ E b.ver = some (.blk bk cap sz) := by
    rintro bk ⟨p, ob, cap, sz, h1, h2⟩
    obtain ⟨b, _, g1, g2, g3, _⟩ := lentFin_ok hlf p ob h1
    obtain ⟨e1, e2, _⟩ := En.objs p ob h1
    exact ⟨p, b, cap, sz, g1, g3, by rw [← hnp]; exact e2.1, by rw [g2, ← e1]; exact R.ext _ _ h2⟩
  have K : Keeps (cx F Pr E o w) (rx F Pr E0 lent E (ownOf E o np (rs.flatMap fun x => x.cells.getD [])) w) := by
    refine ⟨rfl, fun _ _ h => h, fun ad v hu hc => ⟨hc, ?_⟩⟩
    rintro (h | h | ⟨q, cap, sz, h⟩)
    · obtain ⟨p, b, cap, sz, h1, h2, _, h3⟩ := hLB _ h
      exact hu (.inl ⟨p, b, cap, sz, h1, h2, h3⟩)
    · exact hu (.inr h)
    · obtain ⟨x, id, ob, _, _, _, h1, h2, h3⟩ := ownOf_blk h
      exact hu (.inl ⟨id, ob, cap, sz, h1, h2, h3⟩)
  have hflat : rs.flatMap (ownIds np o) = (rs.flatMap fun x => x.cells.getD []).flatMap (ownId np o) := by
    rw [List.flatMap_assoc]
    congr 1
  refine ⟨R.os, R.tape, R.output, R.size, R.frame, fun ver l h => R.ext ver l h, ?_, ?_, ?_, ?_⟩
  · intro q b cap sz h
    obtain ⟨x, id, ob, _, _, hge, h1, h2, h3⟩ := ownOf_blk h
    obtain ⟨p1, p2⟩ := R.place id ob b cap sz h1 h3
    refine ⟨.inl ?_, p1⟩
    rcases p2 with p2 | p2
    · exact p2
    · obtain ⟨p, b', cap', sz', g1, g2, g3, g4⟩ := hLB _ p2
      have := R.dist id p ob b' b cap sz cap' sz' h1 g1 h3 g4
      rw [this, g3] at hge
      cases hge
  · intro q q' b cap sz cap' sz' h h'
    obtain ⟨x, id, ob, e1, e2, _, h1, h2, h3⟩ := ownOf_blk h
    obtain ⟨x', id', ob', e1', e2', _, h1', h2', h3'⟩ := ownOf_blk h'
    have := R.dist id id' ob ob' b cap sz cap' sz' h1 h1' h3 h3'
    subst this
    rw [hflat] at hnd
    exact flatMap_inj hnd e1 e1' (k := id) (by rw [e2]; simp) (by rw [e2']; simp)
  · have hvs := finVs_ok R K rfl hl (raw := rs.flatMap fun x => x.cells.getD []) (q := 0) (fun j c hc => by simpa using hc) hfin hlen hrep
    have hvl : vs.length = xs.length := by rw [mapO_length hfin, hlen]
    cases vs with
    | nil =>
      cases xs with
      | nil => exact hvs
      | cons => simp at hvl
    | cons v vs =>
      cases vs with
      | nil =>
        cases xs with
        | nil => simp at hvl
        | cons x xs =>
          cases xs with
          | cons => simp at hvl
          | nil =>
            simp only [tupV, List.length_singleton, dite_true, List.getElem_cons_zero]
            have h1 := hvs.1
            cases v with
            | c => exact h1
            | a => exact h1
            | tup => simp [ResV] at h1
            | undef => simp [ResV] at h1
      | cons v' vs =>
        cases xs with
        | nil => simp at hvl
        | cons x xs =>
          cases xs with
          | nil => simp at hvl
          | cons x' xs =>
            have : ¬ (x :: x' :: xs).length = 1 := by simp
            rw [dif_neg this]
            exact hvs
  · intro p ob ob' l hg ha hE
    obtain ⟨b, b', g1, g2, g3, g4, g5⟩ := lentFin_ok hlf p ob hg
    rw [ha] at g4; cases g4
    obtain ⟨e1, e2, e3, l', e4, e5⟩ := En.objs p ob hg
    rw [hE] at e4; cases e4
    obtain ⟨_, l2, hl2, hrl⟩ := R.objs p b g1
    rw [g2, R.ext p l hE] at hl2; cases hl2
    cases l with
    | nil =>
      have hb : b.rows = [] := hrl.1
      rcases g5 with ⟨rfl, hbx⟩ | ⟨rows, hm, rfl⟩
      · exact ⟨⟨hb, e5.2⟩, fun i j r t hi => by rw [hb] at hi; simp at hi⟩
      · rw [hb] at hm; simp [mapO] at hm; subst hm
        exact ⟨⟨rfl, e5.2⟩, fun i j r t hi => by simp at hi⟩
    | blk bk cap sz =>
      obtain ⟨q1, q2⟩ := hrl
      have q3 : sz = ob.sz := e5.1
      rcases g5 with ⟨rfl, hbx⟩ | ⟨rows, hm, rfl⟩
      · exact ⟨⟨q3, q2.move rfl rfl (by simp only; omega) (fun _ => q2.cl hbx) fun i j r t v _ _ hv => hv.mono K⟩, q2.cl hbx⟩
      · obtain ⟨hlen', hwid, hcl, cs, e, fr, m1, m2, m3, m4⟩ := q2
        have key : ∀ (i j : Nat) (r : List T) (t : T), rows[i]? = some r → r[j]? = some t → ∃ v, cs[i * b.sz + j]? = some v ∧ Rep (cx F Pr E o w) t v ∧ Closed t := by
          intro i j r t hi ht
          obtain ⟨r0, k1, k2⟩ := mapO_get hm hi
          obtain ⟨t0, k3, k4⟩ := mapO_get k2 ht
          obtain ⟨v, m1, m2⟩ := m4 i j r0 t0 k1 k3
          exact ⟨v, m1, cl_rep R k4 m2, cl_closed R k4 m2⟩
        have hclo : ∀ (i j : Nat) (r : List T) (t : T), rows[i]? = some r → r[j]? = some t → Closed t := fun i j r t hi ht => (key i j r t hi ht).choose_spec.2.2
        have hbs : ob.sz = b.sz := by omega
        refine ⟨⟨q3, by simp only [mapO_length hm]; exact hlen', ?_, fun _ => hclo, cs, e, fr, m1, by simp only; rw [hbs]; exact m2, m3, ?_⟩, hclo⟩
        · intro i r hi
          obtain ⟨r0, k1, k2⟩ := mapO_get hm hi
          simp only
          rw [mapO_length k2, hbs]; exact hwid i r0 k1
        · simp only
          rw [hbs]
          intro i j r t hi ht
          obtain ⟨v, m1, m2, _⟩ := key i j r t hi ht
          exact ⟨v, m1, m2.mono K⟩
theorem exB_ok {cf : CallF} (hcf : CallOk P F cf) {k f : Nat} {b : Fn} (hok : okFunc P F f b = true) {as : List V} {lent : List (Nat × Ob)} {res : V} {after : List (Nat × Ob)} (h : exB cf k b as lent = some (res, after)) :
    okFn P F f = true ∧ ∀ Pr E0 vals w, Entry F Pr E0 as lent vals w → Calls P (F f) vals w fun e w' => ∃ val E' own, e = .returned val ∧ Back F Pr E0 lent w E' own res after val w' := by
  unfold okFunc at hok
  split at hok
  · rename_i fn hfn
    simp only [Bool.and_eq_true, decide_eq_true_eq] at hok
    obtain ⟨⟨⟨hname, hnp⟩, hres⟩, hbody⟩ := hok
    split at hbody
    · rename_i c hc
      refine ⟨by simp [okFn, hfn, hc]; simpa using hname, ?_⟩
      intro Pr E0 vals w En
      unfold exB at h
      split at h
      · rename_i hlen
        have R0 := entry_rel En (m := fn.ntmps) (by omega)
        rw [hlen] at R0
        refine calls_of_wp hfn hc ?_
        split at h
        · cases h
        · rename_i out s hne hex
          split at h
          · rename_i rs after' hrs hlf
            split at h
            · rename_i hnd
              rw [Option.map_eq_some_iff] at h
              obtain ⟨vs, hvs, he⟩ := h
              simp only [Prod.mk.injEq] at he
              obtain ⟨rfl, rfl⟩ := he
              refine exC_ok hcf k b.body c hbody (s := { t := (List.range b.np).zip as, o := lent, n := 2000000 }) R0 hex ?_
              intro E' a' w' R'
              obtain ⟨xs, hxs, hl, hrep⟩ := all_results R' hres hrs
              have hrun := run_results hxs
              have B := fin_back En hlen R' hlf hnd hvs hl hrep
              cases out with
              | exit id => exact (hne _ rfl).elim
              | normal => exact ⟨R'.defers, _, hrun, _, _, _, rfl, B⟩
              | ret => exact ⟨R'.defers, _, hrun, _, _, _, rfl, B⟩
            · cases h
          · cases h
        · cases h
      · cases h
    · cases hbody
  · cases hok
/-- what an extern's small function says is so -/
def ExtOk (P : Program) (F : Nat → FuncId) (f : Nat) (g : List V → List (Nat × Ob) → Option (V × List (Nat × Ob))) : Prop :=
  ∀ as lent res after, g as lent = some (res, after) → okFn P F f = true ∧ ∀ Pr E0 vals w, Entry F Pr E0 as lent vals w →
    Calls P (F f) vals w fun e w' => ∃ val E' own, e = .returned val ∧ Back F Pr E0 lent w E' own res after val w'
def TableOk (P : Program) (F : Nat → FuncId) (M : Nat → Option Body) : Prop :=
  ∀ f, match M f with
    | some (.code b) => okFunc P F f b = true
    | some (.ext g) => ExtOk P F f g
    | none => True
theorem exF_ok {M : Nat → Option Body} (hM : TableOk P F M) : ∀ k, CallOk P F (exF M k)
  | 0 => fun f as lent res after h => by simp [exF] at h
  | k + 1 => fun f as lent res after h => by
    simp only [exF] at h
    have hf := hM f
    split at h
    · rename_i b hb
      rw [hb] at hf
      exact exB_ok (exF_ok hM k) hf h
    · rename_i g hg
      rw [hg] at hf
      exact hf as lent res after h
    · cases h
end Mx

namespace Mx
open Go
/-- whatever the one answers, the other answers too -/
def Le (cf cf' : CallF) : Prop := ∀ f as lent r, cf f as lent = some r → cf' f as lent = some r
theorem doCall_mono {cf cf' : CallF} (h : Le cf cf') {n : Nat} {o : List (Nat × Ob)} {f : Nat} {vals : List V} {lend : List Nat} {thaw : List (Nat × Nat)} {r : V × List (Nat × Ob)} (hd : doCall cf n o f vals lend thaw = some r) :
    doCall cf' n o f vals lend thaw = some r := by
  unfold doCall at hd ⊢
  split at hd
  · cases hd
  · rename_i as ls b hargs
    split at hd
    · rename_i hc
      rw [if_pos hc]
      split at hd
      · cases hd
      · rename_i res after hres
        rw [h _ _ _ _ hres]
        exact hd
    · cases hd
theorem act_mono {cf cf' : CallF} (h : Le cf cf') {n d : Nat} {t : List (Nat × V)} {o : List (Nat × Ob)} {m : MO} {r : V × List (Nat × Ob)} (ha : act cf n d t o m = some r) : act cf' n d t o m = some r := by
  cases m with
  | call f as lend thaw =>
    simp only [act] at ha ⊢
    split at ha
    · exact doCall_mono h ha
    · cases ha
  | callv x as =>
    simp only [act] at ha ⊢
    split at ha
    · exact doCall_mono h ha
    · cases ha
  | _ => exact ha
theorem step_mono {cf cf' : CallF} (h : Le cf cf') {n i : Nat} {m : Mop} {t : List (Nat × V)} {o : List (Nat × Ob)} {r : List (Nat × V) × List (Nat × Ob)} (hs : step cf n i m t o = some r) : step cf' n i m t o = some r := by
  unfold step at hs ⊢
  split at hs
  · rw [Option.map_eq_some_iff] at hs ⊢
    obtain ⟨x, hx, rfl⟩ := hs
    exact ⟨x, act_mono h hx, rfl⟩
  · exact hs
  · cases hs
theorem steps_mono {cf cf' : CallF} (h : Le cf cf') {n : Nat} : ∀ {ms : List Mop} {i : Nat} {t : List (Nat × V)} {o : List (Nat × Ob)} {r : List (Nat × V) × List (Nat × Ob)}, steps cf n i ms t o = some r → steps cf' n i ms t o = some r
  | [], i, t, o, r, hs => hs
  | m :: ms, i, t, o, r, hs => by
    simp only [steps] at hs ⊢
    split at hs
    · rename_i t' o' h1
      rw [step_mono h h1]
      exact steps_mono h hs
    · cases hs
theorem entOf_mono {cf cf' : CallF} (h : Le cf cf') {n i : Nat} {m : Mop} {t : List (Nat × V)} {o : List (Nat × Ob)} {e : Ent} (hs : entOf cf n i m t o = some e) : entOf cf' n i m t o = some e := by
  unfold entOf at hs ⊢
  split at hs
  · rw [Option.map_eq_some_iff] at hs ⊢
    obtain ⟨x, hx, rfl⟩ := hs
    exact ⟨x, act_mono h hx, rfl⟩
  · exact hs
  · cases hs
theorem stepsD_mono {cf cf' : CallF} (h : Le cf cf') {n : Nat} : ∀ {ms : List Mop} {as : List (List Nat)} {i : Nat} {t : List (Nat × V)} {o : List (Nat × Ob)} {acc : List (Nat × Ent)} {r : List (Nat × V) × List (Nat × Ob)}, stepsD cf n i ms as t o acc = some r → stepsD cf' n i ms as t o acc = some r
  | [], as, i, t, o, acc, r, hs => hs
  | m :: ms, [], i, t, o, acc, r, hs => by simp [stepsD] at hs
  | m :: ms, a :: as, i, t, o, acc, r, hs => by
    simp only [stepsD] at hs ⊢
    split at hs
    · rename_i e he
      rw [entOf_mono h he]
      simp only
      split at hs
      · rename_i hc
        rw [if_pos hc]
        exact stepsD_mono h hs
      · cases hs
    · cases hs
theorem loopN_mono {f g : St → Option (Out × St)} (h : ∀ s r, f s = some r → g s = some r) : ∀ {m m' : Nat} (_ : m ≤ m') {s : St} {r : Out × St}, loopN f m s = some r → loopN g m' s = some r
  | 0, _, _, s, r, hl => by simp [loopN] at hl
  | m + 1, 0, hm, _, _, _ => by omega
  | m + 1, m' + 1, hm, s, r, hl => by
    simp only [loopN] at hl ⊢
    cases hf : f s with
    | none => rw [hf] at hl; cases hl
    | some x =>
      obtain ⟨out, s'⟩ := x
      rw [hf] at hl
      rw [h s _ hf]
      cases out with
      | normal => exact loopN_mono h (by omega) hl
      | exit id => exact hl
      | ret => exact hl
theorem exC_mono {cf cf' : CallF} (h : Le cf cf') {k k' : Nat} (hk : k ≤ k') : ∀ (c : C) {s : St} {r : Out × St}, exC cf k c s = some r → exC cf' k' c s = some r := by
  intro c
  induction c with
  | skip => intro s r hs; exact hs
  | reg ops kt ko =>
    intro s r hs
    simp only [exC, Option.map_eq_some_iff] at hs ⊢
    obtain ⟨x, hx, rfl⟩ := hs
    exact ⟨x, steps_mono h hx, rfl⟩
  | regd ops anc kt ko =>
    intro s r hs
    simp only [exC, Option.map_eq_some_iff] at hs ⊢
    obtain ⟨x, hx, rfl⟩ := hs
    exact ⟨x, stepsD_mono h hx, rfl⟩
  | seq a b iha ihb =>
    intro s r hs
    simp only [exC] at hs ⊢
    cases ha : exC cf k a s with
    | none => rw [ha] at hs; cases hs
    | some x =>
      obtain ⟨out, s'⟩ := x
      rw [ha] at hs
      rw [iha ha]
      cases out with
      | normal => exact ihb hs
      | exit id => exact hs
      | ret => exact hs
  | cond c a b iha ihb =>
    intro s r hs
    simp only [exC] at hs ⊢
    split at hs
    · rename_i hc; exact iha hs
    · rename_i hc; exact ihb hs
    · cases hs
  | block id a iha =>
    intro s r hs
    simp only [exC] at hs ⊢
    cases ha : exC cf k a s with
    | none => rw [ha] at hs; cases hs
    | some x =>
      obtain ⟨out, s'⟩ := x
      rw [ha] at hs
      rw [iha ha]
      exact hs
  | loop a iha =>
    intro s r hs
    simp only [exC] at hs ⊢
    exact loopN_mono (fun s r h => iha h) hk hs
  | exit id => intro s r hs; exact hs
  | ret => intro s r hs; exact hs
  | shut ids a iha => intro s r hs; simp only [exC] at hs ⊢; exact iha hs
theorem exB_mono {cf cf' : CallF} (h : Le cf cf') {k k' : Nat} (hk : k ≤ k') {f : Fn} {as : List V} {lent : List (Nat × Ob)} {r : V × List (Nat × Ob)} (hs : exB cf k f as lent = some r) : exB cf' k' f as lent = some r := by
  unfold exB at hs ⊢
  split at hs
  · rename_i hn
    rw [if_pos hn]
    cases hx : exC cf k f.body { t := (List.range f.np).zip as, o := lent, n := 2000000 } with
    | none => rw [hx] at hs; cases hs
    | some x =>
      rw [hx] at hs
      rw [exC_mono h hk _ hx]
      exact hs
  · cases hs
theorem exF_mono (M : Nat → Option Body) : ∀ {k k' : Nat}, k ≤ k' → Le (exF M k) (exF M k')
  | 0, _, _ => fun f as lent r h => by simp [exF] at h
  | k + 1, 0, hk => by omega
  | k + 1, k' + 1, hk => fun f as lent r h => by
    have hk' : k ≤ k' := by omega
    simp only [exF] at h ⊢
    cases hM : M f with
    | none => rw [hM] at h; cases h
    | some b =>
      rw [hM] at h
      cases b with
      | code b => exact exB_mono (exF_mono M hk') hk' h
      | ext g => exact h
/-- what a call answers, with fuel enough -/
noncomputable def run (M : Nat → Option Body) : CallF := fun f as lent =>
  open Classical in if h : ∃ r, ∃ k, exF M k f as lent = some r then some h.choose else none
theorem run_iff {M : Nat → Option Body} {f : Nat} {as : List V} {lent : List (Nat × Ob)} {r : V × List (Nat × Ob)} : run M f as lent = some r ↔ ∃ k, exF M k f as lent = some r := by
  unfold run
  constructor
  · intro h
    split at h
    · rename_i hx
      cases h
      exact hx.choose_spec
    · cases h
  · rintro ⟨k, hk⟩
    have hx : ∃ r, ∃ k, exF M k f as lent = some r := ⟨r, k, hk⟩
    rw [dif_pos hx]
    obtain ⟨k2, h2⟩ := hx.choose_spec
    have e1 := exF_mono M (Nat.le_max_left k k2) _ _ _ _ hk
    have e2 := exF_mono M (Nat.le_max_right k k2) _ _ _ _ h2
    rw [e1] at e2
    exact e2.symm
theorem run_ok {P : Program} {F : Nat → FuncId} {M : Nat → Option Body} (hM : TableOk P F M) : CallOk P F (run M) := by
  intro f as lent res after h
  obtain ⟨k, hk⟩ := run_iff.1 h
  exact exF_ok hM k f as lent res after hk
section
variable {M : Nat → Option Body}
theorem act_run {n d : Nat} {t : List (Nat × V)} {o : List (Nat × Ob)} {m : MO} {r : V × List (Nat × Ob)} (h : act (run M) n d t o m = some r) : ∃ k, act (exF M k) n d t o m = some r := by
  have key : ∀ {f vals lend thaw}, doCall (run M) n o f vals lend thaw = some r → ∃ k, doCall (exF M k) n o f vals lend thaw = some r := by
    intro f vals lend thaw hd
    unfold doCall at hd
    split at hd
    · cases hd
    · rename_i as ls b hargs
      split at hd
      · rename_i hc
        split at hd
        · cases hd
        · rename_i res after hres
          obtain ⟨k, hk⟩ := run_iff.1 hres
          refine ⟨k, ?_⟩
          unfold doCall
          rw [hargs]
          simp only
          rw [if_pos hc, hk]
          exact hd
      · cases hd
  cases m with
  | call f as lend thaw =>
    simp only [act] at h ⊢
    split at h
    · rename_i vals hv
      exact key h
    · cases h
  | callv x as =>
    simp only [act] at h ⊢
    split at h
    · exact key h
    · cases h
  | _ => exact ⟨0, h⟩
theorem steps_run {n : Nat} : ∀ {ms : List Mop} {i : Nat} {t : List (Nat × V)} {o : List (Nat × Ob)} {r : List (Nat × V) × List (Nat × Ob)}, steps (run M) n i ms t o = some r → ∃ k, steps (exF M k) n i ms t o = some r
  | [], i, t, o, r, h => ⟨0, h⟩
  | m :: ms, i, t, o, r, h => by
    simp only [steps] at h
    split at h
    · rename_i t' o' h1
      obtain ⟨k2, h2⟩ := steps_run h
      have : ∃ k1, step (exF M k1) n i m t o = some (t', o') := by
        unfold step at h1
        split at h1
        · rename_i hw
          rw [Option.map_eq_some_iff] at h1
          obtain ⟨x, hx, hx2⟩ := h1
          obtain ⟨k, hk⟩ := act_run hx
          refine ⟨k, ?_⟩
          unfold step
          rw [hw]
          simp only [hk, Option.map_some, hx2]
        · rename_i hw
          refine ⟨0, ?_⟩
          unfold step
          rw [hw]
          exact h1
        · cases h1
      obtain ⟨k1, h1'⟩ := this
      refine ⟨max k1 k2, ?_⟩
      simp only [steps]
      rw [step_mono (exF_mono M (Nat.le_max_left k1 k2)) h1']
      exact steps_mono (exF_mono M (Nat.le_max_right k1 k2)) h2
    · cases h
theorem stepsD_run {n : Nat} : ∀ {ms : List Mop} {as : List (List Nat)} {i : Nat} {t : List (Nat × V)} {o : List (Nat × Ob)} {acc : List (Nat × Ent)} {r : List (Nat × V) × List (Nat × Ob)}, stepsD (run M) n i ms as t o acc = some r → ∃ k, stepsD (exF M k) n i ms as t o acc = some r
  | [], as, i, t, o, acc, r, h => ⟨0, h⟩
  | m :: ms, [], i, t, o, acc, r, h => by simp [stepsD] at h
  | m :: ms, a :: as, i, t, o, acc, r, h => by
    simp only [stepsD] at h
    split at h
    · rename_i e he
      split at h
      · rename_i hc
        obtain ⟨k2, h2⟩ := stepsD_run h
        have : ∃ k1, entOf (exF M k1) n i m t o = some e := by
          unfold entOf at he
          split at he
          · rename_i hw
            rw [Option.map_eq_some_iff] at he
            obtain ⟨x, hx, hx2⟩ := he
            obtain ⟨k, hk⟩ := act_run hx
            refine ⟨k, ?_⟩
            unfold entOf
            rw [hw]
            simp only [hk, Option.map_some, hx2]
          · rename_i hw
            refine ⟨0, ?_⟩
            unfold entOf
            rw [hw]
            exact he
          · cases he
        obtain ⟨k1, h1⟩ := this
        refine ⟨max k1 k2, ?_⟩
        simp only [stepsD]
        rw [entOf_mono (exF_mono M (Nat.le_max_left k1 k2)) h1]
        simp only
        rw [if_pos hc]
        exact stepsD_mono (exF_mono M (Nat.le_max_right k1 k2)) h2
      · cases h
    · cases h
theorem exC_run {k : Nat} : ∀ (c : C) {s : St} {r : Out × St}, exC (run M) k c s = some r → ∃ K, ∀ k', K ≤ k' → exC (exF M k') (max k k') c s = some r := by
  intro c
  induction c with
  | skip => intro s r h; exact ⟨0, fun _ _ => h⟩
  | reg ops kt ko =>
    intro s r h
    simp only [exC, Option.map_eq_some_iff] at h ⊢
    obtain ⟨x, hx, rfl⟩ := h
    obtain ⟨K, hK⟩ := steps_run hx
    exact ⟨K, fun k' hk' => ⟨x, steps_mono (exF_mono M hk') hK, rfl⟩⟩
  | regd ops anc kt ko =>
    intro s r h
    simp only [exC, Option.map_eq_some_iff] at h ⊢
    obtain ⟨x, hx, rfl⟩ := h
    obtain ⟨K, hK⟩ := stepsD_run hx
    exact ⟨K, fun k' hk' => ⟨x, stepsD_mono (exF_mono M hk') hK, rfl⟩⟩
  | seq a b iha ihb =>
    intro s r h
    simp only [exC] at h ⊢
    cases ha : exC (run M) k a s with
    | none => rw [ha] at h; cases h
    | some x =>
      obtain ⟨out, s'⟩ := x
      rw [ha] at h
      obtain ⟨K1, h1⟩ := iha ha
      cases out with
      | normal =>
        obtain ⟨K2, h2⟩ := ihb h
        exact ⟨max K1 K2, fun k' hk' => by rw [h1 k' (by omega)]; exact h2 k' (by omega)⟩
      | exit id => exact ⟨K1, fun k' hk' => by rw [h1 k' hk']; exact h⟩
      | ret => exact ⟨K1, fun k' hk' => by rw [h1 k' hk']; exact h⟩
  | cond c a b iha ihb =>
    intro s r h
    simp only [exC] at h ⊢
    split at h
    · exact iha h
    · exact ihb h
    · cases h
  | block id a iha =>
    intro s r h
    simp only [exC] at h ⊢
    cases ha : exC (run M) k a s with
    | none => rw [ha] at h; cases h
    | some x =>
      obtain ⟨out, s'⟩ := x
      rw [ha] at h
      obtain ⟨K1, h1⟩ := iha ha
      exact ⟨K1, fun k' hk' => by rw [h1 k' hk']; exact h⟩
  | loop a iha =>
    intro s r h
    simp only [exC] at h ⊢
    have key : ∀ (m : Nat) {s : St}, loopN (exC (run M) k a) m s = some r → ∃ K, ∀ k', K ≤ k' → loopN (exC (exF M k') (max k k') a) m s = some r := by
      intro m
      induction m with
      | zero => intro s h; simp [loopN] at h
      | succ m ihm =>
        intro s h
        simp only [loopN] at h
        cases ha : exC (run M) k a s with
        | none => rw [ha] at h; cases h
        | some x =>
          obtain ⟨out, s'⟩ := x
          rw [ha] at h
          obtain ⟨K1, h1⟩ := iha ha
          cases out with
          | normal =>
            obtain ⟨K2, h2⟩ := ihm h
            exact ⟨max K1 K2, fun k' hk' => by simp only [loopN]; rw [h1 k' (by omega)]; exact h2 k' (by omega)⟩
          | exit id => exact ⟨K1, fun k' hk' => by simp only [loopN]; rw [h1 k' hk']; exact h⟩
          | ret => exact ⟨K1, fun k' hk' => by simp only [loopN]; rw [h1 k' hk']; exact h⟩
    obtain ⟨K, hK⟩ := key k h
    exact ⟨K, fun k' hk' => loopN_mono (fun _ _ h => h) (Nat.le_max_left _ _) (hK k' hk')⟩
  | exit id => intro s r h; exact ⟨0, fun _ _ => h⟩
  | ret => intro s r h; exact ⟨0, fun _ _ => h⟩
  | shut ids a iha => intro s r h; simp only [exC] at h ⊢; exact iha h
end
theorem run_code {M : Nat → Option Body} {f : Nat} {b : Fn} (hM : M f = some (.code b)) {as : List V} {lent : List (Nat × Ob)} {r : V × List (Nat × Ob)} (h : ∃ k, exB (run M) k b as lent = some r) : run M f as lent = some r := by
  obtain ⟨k, h⟩ := h
  unfold exB at h
  split at h
  · rename_i hn
    cases hx : exC (run M) k b.body { t := (List.range b.np).zip as, o := lent, n := 2000000 } with
    | none => rw [hx] at h; cases h
    | some x =>
      rw [hx] at h
      obtain ⟨K, hK⟩ := exC_run _ hx
      refine run_iff.2 ⟨max k K + 1, ?_⟩
      simp only [exF, hM]
      unfold exB
      rw [if_pos hn]
      have := hK (max k K) (Nat.le_max_right _ _)
      rw [show max k (max k K) = max k K from by omega] at this
      rw [this]
      exact h
  · cases h
theorem run_ext {M : Nat → Option Body} {f : Nat} {g : List V → List (Nat × Ob) → Option (V × List (Nat × Ob))} (hM : M f = some (.ext g)) {as : List V} {lent : List (Nat × Ob)} {r : V × List (Nat × Ob)} (h : g as lent = some r) : run M f as lent = some r :=
  run_iff.2 ⟨1, by simp only [exF, hM]; exact h⟩
end Mx

namespace Mx
open Go
attribute [simp] kI kB lr Q Qn Qg Qm Qf Ql QL Qs Qb Qi Qx Qa Qv
attribute [simp] exC steps step act wanted setT look lookT lookI lookB lookN lookG lookA optN get place lenOf bin isShift shiftBin intBin V.cells mapO setAt setAll szOf rowsOf srcOf max2 min2 eqT eqL resV tupV V.fin finT lentFin ownIds args lendL lentId lendsC V.im im im1 im0 V.wr wr3 wr2 wr cl doCall back backV backVs backL backT V.flat flatT lentBack backOb lendOne T.scalar sealOb
theorem keep_nil {α : Type} (l : List (Nat × α)) : keep [] l = [] := rfl
theorem keep_cons {α : Type} (k : Nat) (ks : List Nat) (l : List (Nat × α)) : keep (k :: ks) l = match get l k with | some v => (k, v) :: keep ks l | none => keep ks l := by
  cases h : get l k <;> simp [keep, h]
attribute [simp] keep_nil keep_cons
abbrev I (n : Int) : T := .int .i64 n
abbrev U8 (n : Int) : T := .int .u8 n
abbrev bs (l : List UInt8) : ByteArray := ⟨l.toArray⟩
abbrev S (l : List UInt8) : T := .str (bs l)
theorem bs_size (l : List UInt8) : (bs l).size = l.length := by simp [ByteArray.size]
theorem bs_get (l : List UInt8) (i : Nat) (h : i < (bs l).size) : (bs l)[i] = l[i]'(by simpa [bs_size] using h) := by
  simp [bs, ByteArray.getElem_eq_getElem_data]
theorem bs_append (a b : List UInt8) : bs a ++ bs b = bs (a ++ b) := by
  apply ByteArray.ext; simp [bs, ByteArray.data_append]
theorem bs_extract (a : List UInt8) (i j : Nat) : (bs a).extract i j = bs ((a.take j).drop i) := by
  apply ByteArray.ext; simp [bs, ByteArray.data_extract, List.drop_take]
theorem bs_toList (a : List UInt8) : (bs a).toList = a := by
  rw [ByteArray.toList_eq]
attribute [simp] bs_size bs_append bs_extract bs_toList
theorem beq_dec (a b : List UInt8) : (a == b) = decide (a = b) := by rw [Bool.eq_iff_iff]; simp
theorem str_add (a b : List UInt8) (h : a.length + b.length ≤ 4611686018427387904) : strBin .add (bs a) (bs b) = some (S (a ++ b)) := by
  simp [strBin, h]
theorem str_eql (a b : List UInt8) : strBin .eql (bs a) (bs b) = some (.bool (decide (a = b))) := by simp only [strBin, bs_toList, beq_dec]
theorem str_neq (a b : List UInt8) : strBin .neq (bs a) (bs b) = some (.bool !decide (a = b)) := by simp only [strBin, bs_toList, beq_dec]
theorem str_lss (a b : List UInt8) : strBin .lss (bs a) (bs b) = some (.bool (bless a b)) := by simp [strBin]
theorem str_leq (a b : List UInt8) : strBin .leq (bs a) (bs b) = some (.bool (bless a b || decide (a = b))) := by simp only [strBin, bs_toList, beq_dec]
theorem str_gtr (a b : List UInt8) : strBin .gtr (bs a) (bs b) = some (.bool !(bless a b || decide (a = b))) := by simp only [strBin, bs_toList, beq_dec]
theorem str_geq (a b : List UInt8) : strBin .geq (bs a) (bs b) = some (.bool !(bless a b)) := by simp [strBin]
attribute [simp] str_add str_eql str_neq str_lss str_leq str_gtr str_geq
theorem wrap_i64 {x : Int} (h : -9223372036854775808 ≤ x) (h' : x ≤ 9223372036854775807) : IntKind.i64.wrap x = x := by
  unfold IntKind.wrap; simp [IntKind.bits, IntKind.signed] <;> omega
theorem wrap1 {i : Nat} (h : i < 9223372036854775807) : IntKind.i64.wrap ((i : Int) + 1) = (i : Int) + 1 := wrap_i64 (by omega) (by omega)
theorem u8_lt (a b : UInt8) : (a.toNat : Int) < (b.toNat : Int) ↔ a < b := by
  rw [UInt8.lt_iff_toNat_lt]; omega
theorem u8_eq (a b : UInt8) : ((a.toNat : Int) = (b.toNat : Int)) ↔ a = b := by
  rw [← UInt8.toNat_inj]; omega
theorem take_drop1 {α : Type} (l : List α) (i : Nat) (hi : i < l.length) : (l.take (i + 1)).drop i = [l[i]] := by
  rw [List.take_succ_eq_append_getElem hi, List.drop_append_of_le_length (by simp; omega), List.drop_eq_nil_of_le (by simp; omega)]; rfl
theorem ite_le {α : Type} {a b : Nat} [Decidable (a ≤ b)] (h : a ≤ b) (x y : α) : (if a ≤ b then x else y) = x := if_pos h
/-- bytes in a row -/
def brow (l : List UInt8) : List (List T) := l.map fun b => [U8 b.toNat]
theorem brow_len (l : List UInt8) : (brow l).length = l.length := by simp [brow]
theorem brow_append (a b : List UInt8) : brow a ++ brow b = brow (a ++ b) := by simp [brow]
theorem brow_take (a : List UInt8) (n : Nat) : (brow a).take n = brow (a.take n) := by simp [brow]
theorem brow_one (b : UInt8) : [[U8 b.toNat]] = brow [b] := rfl
theorem brow_bytes (l : List UInt8) : rowsBytes (brow l) = some l := by
  induction l with
  | nil => rfl
  | cons b l ih =>
    unfold rowsBytes brow at ih ⊢
    simp only [List.map_cons, mapO, ih]
    simp
theorem brow_empty (l : List UInt8) : (brow l).isEmpty = l.isEmpty := by cases l <;> rfl
attribute [simp] brow_len brow_append brow_take brow_bytes brow_empty
/-- a loop whose states are a family: the round from S i goes to S (i + 1) -/
theorem loop_inv {β : Type} {f : St → Option (Out × St)} (S : Nat → β → St) (Post : Out × St → Prop) (n : Nat)
    (h : ∀ i, i < n → ∀ x, ∃ y, f (S i x) = some (.normal, S (i + 1) y)) (hend : ∀ x, ∃ r, f (S n x) = some r ∧ r.1 ≠ .normal ∧ Post r) :
    ∀ m, n < m → ∀ x, ∃ r, loopN f m (S 0 x) = some r ∧ Post r := by
  have key : ∀ d i, i + d = n → ∀ m, d < m → ∀ x, ∃ r, loopN f m (S i x) = some r ∧ Post r := by
    intro d
    induction d with
    | zero =>
      intro i hi m hm x
      have : i = n := by omega
      subst this
      obtain ⟨r, h1, h2, h3⟩ := hend x
      cases m with
      | zero => omega
      | succ m =>
        refine ⟨r, ?_, h3⟩
        simp only [loopN, h1]
        obtain ⟨out, s'⟩ := r
        cases out with
        | normal => exact (h2 rfl).elim
        | exit id => rfl
        | ret => rfl
    | succ d ih =>
      intro i hi m hm x
      cases m with
      | zero => omega
      | succ m =>
        obtain ⟨y, hy⟩ := h i (by omega) x
        obtain ⟨r, h1, h2⟩ := ih (i + 1) (by omega) m (by omega) y
        exact ⟨r, by simp only [loopN, hy]; exact h1, h2⟩
  intro m hm x
  exact key n 0 (by omega) m hm x
/-- a loop whose states are a family over what it stands at; 'res' is what it will come to -/
theorem loop_meas {σ β ρ : Type} {f : St → Option (Out × St)} (S : σ → β → St) (Inv : σ → Prop) (μ : σ → Nat) (res : σ → ρ) (Post : ρ → Out × St → Prop)
    (h : ∀ s x, Inv s → (∃ s' y, f (S s x) = some (.normal, S s' y) ∧ Inv s' ∧ μ s' < μ s ∧ res s' = res s) ∨ (∃ r, f (S s x) = some r ∧ r.1 ≠ .normal ∧ Post (res s) r)) :
    ∀ m s x, Inv s → μ s < m → ∃ r, loopN f m (S s x) = some r ∧ Post (res s) r := by
  intro m
  induction m with
  | zero => intro s x _ h; omega
  | succ m ih =>
    intro s x hi hm
    rcases h s x hi with ⟨s', y, h1, h2, h3, h4⟩ | ⟨r, h1, h2, h3⟩
    · obtain ⟨r, k1, k2⟩ := ih s' y h2 (by omega)
      exact ⟨r, by simp only [loopN, h1]; exact k1, by rw [← h4]; exact k2⟩
    · refine ⟨r, ?_, h3⟩
      simp only [loopN, h1]
      obtain ⟨out, s'⟩ := r
      cases out with
      | normal => exact (h2 rfl).elim
      | exit id => rfl
      | ret => rfl
/-- the same, for all numbers that the loop may begin with -/
theorem loop_all {σ β ρ γ : Type} {f : St → Option (Out × St)} (S : σ → β → St) (Inv : σ → Prop) (μ : σ → Nat) (res : σ → ρ) (fin : ρ → γ → Out × St)
    (h : ∀ s x, Inv s → (∃ s' y, f (S s x) = some (.normal, S s' y) ∧ Inv s' ∧ μ s' < μ s ∧ res s' = res s) ∨ (∃ z, f (S s x) = some (fin (res s) z) ∧ (fin (res s) z).1 ≠ .normal)) :
    ∀ m s, Inv s → μ s < m → ∃ g : β → γ, ∀ x, loopN f m (S s x) = some (fin (res s) (g x)) := by
  intro m s hi hm
  have := fun x => loop_meas S Inv μ res (fun q r => ∃ z, r = fin q z)
    (fun s x hi => by
      rcases h s x hi with h1 | ⟨z, h1, h2⟩
      · exact .inl h1
      · exact .inr ⟨_, h1, h2, z, rfl⟩) m s x hi hm
  refine ⟨fun x => (this x).choose_spec.2.choose, fun x => ?_⟩
  have h1 := (this x).choose_spec
  rw [h1.1, ← h1.2.choose_spec]
end Mx

namespace Mx
open Go
def impl_QuoteText.l0 : C := .seq (.seq (.reg [Qm 7 5, Qm 8 0, Q 9 (.slen (.t 8)), Q 10 (.bin .lss (.t 7) (.t 9))] [0,4,5,10] [6,35,41])
  (.cond (.t 10) (.skip) (.exit 0)))
  (.seq (.block 1 (.seq (.seq (.reg [Qm 13 0, Qm 14 5, Q 15 (.idx (.t 13) (.t 14)), Q 16 (.bin .lss (.t 15) (.k (.int .u8 32))), Qm 17 16, Qg 18 (.mv (.t 0)) 17 false, Qg 19 (.mv (.t 5)) 17 false,
    Qg 20 (.idx (.t 18) (.t 19)) 17 false, Qg 21 (.bin .gtr (.t 20) (.k (.int .u8 126))) 17 false, Q 22 (.pick (.t 17) (kB true) (.t 21))] [0,4,5,22] [6,35,41])
  (.cond (.t 22) (.seq (.reg [Q 2 (.mv (.k (.str ⟨#[]⟩))), Qb 3 false] [2,3] [])
  (.ret)) (.skip)))
  (.seq (.seq (.reg [Qm 23 0, Qm 24 5, Q 25 (.idx (.t 23) (.t 24)), Q 26 (.bin .eql (.t 25) (.k (.int .u8 34))), Qm 27 26, Qg 28 (.mv (.t 0)) 27 false, Qg 29 (.mv (.t 5)) 27 false,
    Qg 30 (.idx (.t 28) (.t 29)) 27 false, Qg 31 (.bin .eql (.t 30) (.k (.int .u8 92))) 27 false, Q 32 (.pick (.t 27) (kB true) (.t 31))] [0,4,5,32] [6,35,41])
  (.cond (.t 32) (.reg [Qm 33 4, Q 34 (.bslice 1 1 [.int .u8 0] [(0, .k (.int .u8 92))]), Q 35 (.app 1 1 (.t 33) (.t 34)), Qm 4 35] [0,4,5] [6,35,41]) (.skip)))
  (.reg [Qm 36 4, Qm 37 0, Qm 38 5, Q 39 (.idx (.t 37) (.t 38)), Q 40 (.bslice 1 1 [.int .u8 0] [(0, .t 39)]), Q 41 (.app 1 1 (.t 36) (.t 40)), Qm 4 41] [0,4,5] [6,35,41]))))
  (.reg [Qm 11 5, Q 12 (.bin .add (.t 11) (kI 1)), Qm 5 12] [0,4,5] [6,35,41]))
def impl_QuoteText.b : C := .seq (.reg [Q 2 (.mv (.k (.str ⟨#[]⟩))), Qb 3 false] [0] [])
  (.seq (.reg [Q 6 (.bslice 1 1 [.int .u8 0] [(0, .k (.int .u8 34))]), Qm 4 6] [0,4] [6,35,41])
  (.seq (.seq (.reg [Qi 5 0] [0,4,5] [6,35,41])
  (.block 0 (.loop impl_QuoteText.l0)))
  (.seq (.seq (.reg [Qm 42 0, Q 43 (.slen (.t 42)), Q 44 (.bin .gtr (.t 43) (kI 60))] [4,44] [6,35,41])
  (.cond (.t 44) (.seq (.reg [Q 2 (.mv (.k (.str ⟨#[]⟩))), Qb 3 false] [2,3] [])
  (.ret)) (.skip)))
  (.seq (.reg [Qm 45 4, Q 46 (.bslice 1 1 [.int .u8 0] [(0, .k (.int .u8 34))]), Q 47 (.app 1 1 (.t 45) (.t 46)), Q 48 (.b2s (.t 47)), Qm 2 48, Qb 3 true] [2,3] [])
  (.ret)))))
def impl_QuoteText.m : Fn := { np := 1, body := impl_QuoteText.b, res := [.tmp 2, .tmp 3] }
def impl_QuoteText.k (M : Nat → Option Body) : Prop := M 127 = some (.code impl_QuoteText.m)
end Mx

namespace Mx
open Go
def impl_Decimal.l0 : C := .seq (.seq (.reg [Qm 9 4, Q 10 (.bin .neq (.t 9) (kI 0))] [0,3,4,10] [])
  (.cond (.t 10) (.skip) (.exit 0)))
  (.seq (.block 1 (.seq (.reg [Qm 13 4, Q 14 (.bin .rem (.t 13) (kI 10)), Qm 5 14] [0,3,4,5] [])
  (.seq (.reg [Qm 15 5, Qm 16 5, Q 17 (.neg (.t 16)), Q 18 (.max (.t 15) (.t 17)), Qm 5 18] [0,3,4,5] [])
  (.reg [Qm 19 5, Qm 20 5, Q 21 (.bin .add (.t 20) (kI 1)), Q 22 (.sstr (.k (.str ⟨#[48,49,50,51,52,53,54,55,56,57,97,98,99,100,101,102]⟩)) (some (.t 19)) (some (.t 21))),
    Qm 23 3, Q 24 (.bin .add (.t 22) (.t 23)), Qm 3 24] [0,3,4] []))))
  (.reg [Qm 11 4, Q 12 (.bin .quo (.t 11) (kI 10)), Qm 4 12] [0,3,4] []))
def impl_Decimal.b : C := .seq (.reg [Q 2 (.mv (.k (.str ⟨#[]⟩)))] [0] [])
  (.seq (.seq (.reg [Qm 6 0, Q 7 (.bin .eql (.t 6) (kI 0))] [0,7] [])
  (.cond (.t 7) (.seq (.reg [Q 2 (.mv (.k (.str ⟨#[48]⟩)))] [2] [])
  (.ret)) (.skip)))
  (.seq (.reg [Q 3 (.mv (.k (.str ⟨#[]⟩)))] [0,3] [])
  (.seq (.seq (.reg [Qm 8 0, Qm 4 8] [0,3,4] [])
  (.block 0 (.loop impl_Decimal.l0)))
  (.seq (.seq (.reg [Qm 25 0, Q 26 (.bin .lss (.t 25) (kI 0))] [3,26] [])
  (.cond (.t 26) (.reg [Qm 27 3, Q 28 (.bin .add (.k (.str ⟨#[45]⟩)) (.t 27)), Qm 3 28] [3] []) (.skip)))
  (.seq (.reg [Qm 29 3, Qm 2 29] [2] [])
  (.ret))))))
def impl_Decimal.m : Fn := { np := 1, body := impl_Decimal.b, res := [.tmp 2] }
def impl_Decimal.k (M : Nat → Option Body) : Prop := M 128 = some (.code impl_Decimal.m)
end Mx

namespace Mx
open Go
def impl_TokenText.b : C := .seq (.reg [Qv 1 0, Q 2 (.mv (.k (.str ⟨#[]⟩)))] [1] [1])
  (.seq (.seq (.reg [Qf 5 0 1, Ql 6 5, Q 7 (.bin .eql (.t 6) (kI 1))] [1,7] [1])
  (.cond (.t 7) (.seq (.reg [Qf 8 1 1, Ql 9 8, Qm 2 9] [2] [])
  (.ret)) (.skip)))
  (.seq (.seq (.reg [Qf 11 1 1, Ql 12 11, Q 13 (.call 127 [.t 12] [] []), Qm 10 13, Qx 14 0 10, Qx 15 1 10, Qm 3 14, Qm 4 15] [1,3,4] [1])
  (.seq (.reg [Qm 16 4] [1,3,16] [1])
  (.cond (.t 16) (.seq (.reg [Qm 17 3, Qm 2 17] [2] [])
  (.ret)) (.skip))))
  (.seq (.regd [Qf 18 1 1, Ql 19 18, Q 20 (.slen (.t 19)), Q 21 (.call 128 [.t 20] [] []), Q 22 (.bin .add (.k (.str ⟨#[123]⟩)) (.t 21)), Q 23 (.bin .add (.t 22) (.k (.str ⟨#[125]⟩))),
    Q 24 (.bin .add (.t 23) (.k (.str ⟨#[13,10]⟩))), Qf 25 1 1, Ql 26 25, Q 27 (.bin .add (.t 24) (.t 26)), Qm 2 27] [[], [0], [0,1], [0,1,2], [0,1,2,3], [0,1,2,3,4], [0,1,2,3,4,5], [], [7], [0,1,2,3,4,5,6,7,8], [0,1,2,3,4,5,6,7,8,9]] [2] [])
  (.ret))))
def impl_TokenText.m : Fn := { np := 1, body := impl_TokenText.b, res := [.tmp 2] }
def impl_TokenText.k (M : Nat → Option Body) : Prop := M 38 = some (.code impl_TokenText.m) ∧ impl_QuoteText.k M ∧ impl_Decimal.k M
end Mx

namespace Mx
open Go
/-- it writes no place -/
def MO.pure : MO → Bool
  | .mv _ => true
  | .pick .. => true
  | .load .. => true
  | .bin .. => true
  | .beq .. => true
  | .eqs .. => true
  | .not _ => true
  | .neg _ => true
  | .i2i .. => true
  | .faddr .. => true
  | .iaddr .. => true
  | .idx .. => true
  | .fld .. => true
  | .ext .. => true
  | .len _ => true
  | .slen _ => true
  | .sstr .. => true
  | .max .. => true
  | .min .. => true
  | .call _ _ l h => l.isEmpty && h.isEmpty
  | _ => false
def actE (cf : CallF) (n d : Nat) (t : List (Nat × V)) (o : List (Nat × Ob)) (op : MO) : Done := match op with
  | .call f as l h => act cf n d t (keep (touch t o (.call f as l h)) o) (.call f as l h)
  | op => act cf n d t o op
def stepsE (cf : CallF) (n : Nat) : Nat → List Mop → List (Nat × V) → List (Nat × Ob) → Option (List (Nat × V) × List (Nat × Ob))
  | _, [], t, o => some (t, o)
  | i, m :: ms, t, o => match wanted t m.guard with
    | some true => (match actE cf (n + 16 * i) (m.dst.getD 0) t o m.op with | some r => stepsE cf n (i + 1) ms (setT t m.dst r.1) o | none => none)
    | some false => stepsE cf n (i + 1) ms (setT t m.dst .undef) o
    | none => none
theorem backT_nil {n : Nat} {l : List (Nat × Nat × Nat)} {q : Nat} {t : T} {r : T × List (Nat × Ob)} (h : backT n l [] q t = some r) : r.2 = [] := by
  cases t <;> simp [backT, get] at h <;> try (subst h; rfl)
  split at h <;> simp at h
  subst h; rfl
theorem backL_nil {n : Nat} {l : List (Nat × Nat × Nat)} : ∀ {ts : List T} {q : Nat} {r : List T × List (Nat × Ob)}, backL n l [] q ts = some r → r.2 = []
  | [], _, r, h => by simp [backL] at h; subst h; rfl
  | t :: ts, q, r, h => by
    simp only [backL] at h
    split at h <;> try (cases h)
    rename_i a b hb
    split at h <;> cases h
    rename_i a' b' hb'
    have h1 := backT_nil hb
    have h2 := backL_nil hb'
    simp only at h1 h2; subst h1 h2; rfl
theorem backV_nil {n : Nat} {l : List (Nat × Nat × Nat)} {q : Nat} {v : V} {r : V × List (Nat × Ob) × Nat} (h : backV n l [] q v = some r) : r.2.1 = [] := by
  cases v <;> simp only [backV] at h <;> try (cases h)
  · split at h <;> cases h
    rename_i a b hb
    exact backT_nil hb
  · split at h <;> cases h
    rename_i a b hb
    exact backL_nil hb
theorem backVs_nil {n : Nat} {l : List (Nat × Nat × Nat)} : ∀ {vs : List V} {q : Nat} {r : List V × List (Nat × Ob)}, backVs n l [] q vs = some r → r.2 = []
  | [], _, r, h => by simp [backVs] at h; subst h; rfl
  | v :: vs, q, r, h => by
    simp only [backVs] at h
    split at h <;> try (cases h)
    rename_i a b c hb
    split at h <;> cases h
    rename_i a' b' hb'
    have h1 := backV_nil hb
    have h2 := backVs_nil hb'
    simp only at h1 h2; subst h1 h2; rfl
theorem back_nil {n : Nat} {l : List (Nat × Nat × Nat)} {v : V} {r : V × List (Nat × Ob)} (h : back n l [] v = some r) : r.2 = [] := by
  unfold back at h
  split at h <;> simp only [Option.map_eq_some_iff] at h <;> obtain ⟨a, h1, rfl⟩ := h
  · exact backVs_nil h1
  · exact backV_nil h1
theorem args_nil {o : List (Nat × Ob)} : ∀ {vs : List V} {p : Nat} {r : List V × List (Nat × Nat × Ob) × List Nat}, args o [] p vs = some r → r.2.1 = []
  | [], _, r, h => by simp [args] at h; subst h; rfl
  | v :: vs, p, r, h => by
    simp only [args] at h
    split at h <;> try (cases h)
    rename_i a b c hb
    simp only [List.not_mem_nil, if_false, lendsC, List.any_nil, Bool.false_eq_true] at h
    split at h <;> cases h
    exact args_nil (r := (a, b, c)) hb
theorem doCall_nil {cf : CallF} {n : Nat} {o : List (Nat × Ob)} {f : Nat} {vals : List V} {r : V × List (Nat × Ob)} (h : doCall cf n o f vals [] [] = some r) : r.2 = [] := by
  unfold doCall at h
  split at h <;> try (cases h)
  rename_i as ls b ha
  have := args_nil ha
  simp only at this; subst this
  split at h <;> try (cases h)
  split at h <;> try (cases h)
  rename_i res after _
  split at h <;> try (cases h)
  rename_i ups v ups' h1 h2
  simp [lentBack] at h1
  have := back_nil h2
  simp only at this; subst this h1
  split at h <;> cases h
  rfl
theorem act_pure {cf : CallF} {n d : Nat} {t : List (Nat × V)} {o : List (Nat × Ob)} {op : MO} (hp : op.pure = true) {r : V × List (Nat × Ob)} (h : act cf n d t o op = some r) : r.2 = [] := by
  cases op <;> simp only [MO.pure] at hp <;> simp only [act] at h <;> try (cases hp; done)
  all_goals first
    | (simp only [Option.map_eq_some_iff] at h; obtain ⟨a, _, rfl⟩ := h; rfl)
    | (repeat' split at h) <;> first | (cases h; done) | (cases h; rfl) | (simp only [Option.map_eq_some_iff] at h; obtain ⟨a, _, rfl⟩ := h; rfl) | (simp only [List.isEmpty_iff, Bool.and_eq_true] at hp; obtain ⟨rfl, rfl⟩ := hp; exact doCall_nil h)
theorem get_keep_in {α : Type} (ks : List Nat) (l : List (Nat × α)) {x : Nat} (h : x ∈ ks) : get (keep ks l) x = get l x := by
  induction ks with
  | nil => simp at h
  | cons k ks ih =>
    rw [keep_cons]
    by_cases e : x = k
    · subst e
      cases hg : get l x with
      | none =>
        simp only []
        by_cases hm : x ∈ ks
        · rw [ih hm, hg]
        · cases hq : get (keep ks l) x with
          | none => rfl
          | some v => exact (hm (get_keep_mem ks l hq)).elim
      | some v => simp [get]
    · have hm : x ∈ ks := by simpa [e] using h
      cases hg : get l k with
      | none => exact ih hm
      | some v => simp only [get, e, if_false]; exact ih hm
theorem place_keep {o : List (Nat × Ob)} {ks : List Nat} {a : T} (h : ∀ x ∈ idsT a, x ∈ ks) : place (keep ks o) a = place o a := by
  cases a <;> simp only [place]
  rename_i id ver i j
  rw [get_keep_in ks o (h id (by simp [idsT]))]
theorem touch_mem {t : List (Nat × V)} {o : List (Nat × Ob)} {op : MO} {n : Nat} {a : T} (h : n ∈ op.eyes) (hg : get t n = some (.c a)) : ∀ x ∈ idsT a, x ∈ touch t o op := by
  intro x hx
  simp only [touch, List.mem_flatMap]
  exact ⟨n, h, by rw [hg]; simp [idsV, hx]⟩
/-- a constant is no place of memory -/
def O.plain : O → Bool
  | .k v => (idsT v).isEmpty
  | _ => true
def MO.plainA : MO → Bool
  | .load _ _ a => a.plain
  | .iaddr _ x _ => x.plain
  | _ => true
theorem lookT_ids {t : List (Nat × V)} {o : List (Nat × Ob)} {op : MO} {x : O} {a : T} (hp : x.plain = true) (h : lookT t x = some a) (hm : ∀ n, x = .t n → n ∈ op.eyes) : ∀ y ∈ idsT a, y ∈ touch t o op := by
  cases x with
  | t n =>
    simp only [lookT, look] at h
    split at h <;> cases h
    rename_i hg
    exact touch_mem (hm n rfl) hg
  | k v =>
    simp only [lookT, look] at h
    cases h
    simp only [O.plain, List.isEmpty_iff] at hp
    intro y hy; rw [hp] at hy; cases hy
  | fn f =>
    simp only [lookT, look] at h
    cases h
    intro y hy; simp [idsT] at hy
theorem act_keep {cf : CallF} {n d : Nat} {t : List (Nat × V)} {o : List (Nat × Ob)} {op : MO} (hp : op.pure = true) (hp2 : op.plainA = true) :
    act cf n d t (keep (touch t o op) o) op = actE cf n d t o op := by
  cases op <;> simp only [MO.pure] at hp <;> simp only [actE] <;> try (cases hp; done)
  all_goals try (simp only [act]; done)
  case load agg k a =>
    simp only [act]
    cases ha : lookT t a with
    | none => rfl
    | some v =>
      simp only []
      rw [place_keep (lookT_ids hp2 ha (fun m e => by subst e; simp [MO.eyes, MO.tmps, O.tmps]))]
  case iaddr sz x ix =>
    simp only [act]
    cases ha : lookT t x with
    | none => rfl
    | some v =>
      cases v with
      | row id ver off len =>
        cases hi : lookN t ix with
        | none => rfl
        | some i =>
          simp only []
          rw [get_keep_in _ o (lookT_ids (o := o) (op := .iaddr sz x ix) hp2 ha (fun m e => by subst e; simp [MO.eyes, MO.tmps, O.tmps]) id (by simp [idsT]))]
      | sl own s rows => cases lookN t ix <;> rfl
      | _ => cases lookN t ix <;> rfl
def plainAll : List Mop → Bool
  | [] => true
  | m :: ms => m.op.pure && m.op.plainA && plainAll ms
theorem stepsD_pure {cf : CallF} {n : Nat} : ∀ (ms : List Mop) (as : List (List Nat)) (i : Nat) (t : List (Nat × V)) (o : List (Nat × Ob)) (acc : List (Nat × Ent)), plainAll ms = true → ms.length ≤ as.length → (∀ p ∈ acc, p.2.ups = []) →
    stepsD cf n i ms as t o acc = stepsE cf n i ms t o
  | [], as, i, t, o, acc, _, _, _ => by simp [stepsD, stepsE]
  | m :: ms, [], i, t, o, acc, _, h, _ => by simp at h
  | m :: ms, a :: as, i, t, o, acc, hp, hl, ha => by
    simp only [plainAll, Bool.and_eq_true] at hp
    have hk := act_keep (cf := cf) (n := n + 16 * i) (d := m.dst.getD 0) (t := t) (o := o) hp.1.1 hp.1.2
    simp only [stepsD, stepsE, entOf]
    cases hw : wanted t m.guard with
    | none => rfl
    | some b =>
      have hall : ∀ e : Ent, e.ups = [] → acc.all (fun x => a.contains x.1 || e.apart x.2) = true := by
        intro e he
        simp only [List.all_eq_true]
        intro p hpm
        simp [Ent.apart, Ent.W, he, ha p hpm]
      cases b with
      | false =>
        simp only []
        rw [if_pos (hall _ rfl), List.nil_append]
        exact stepsD_pure ms as (i + 1) _ o _ hp.2 (by simp at hl; omega) (fun p h => by
          rcases List.mem_cons.1 h with rfl | h
          · rfl
          · exact ha p h)
      | true =>
        simp only [hk]
        cases hr : actE cf (n + 16 * i) (m.dst.getD 0) t o m.op with
        | none => rfl
        | some r =>
          have hu : r.2 = [] := by
            rw [← hk] at hr
            exact act_pure hp.1.1 hr
          simp only [Option.map_some]
          rw [if_pos (hall _ hu), hu, List.nil_append]
          exact stepsD_pure ms as (i + 1) _ o _ hp.2 (by simp at hl; omega) (fun p h => by
            rcases List.mem_cons.1 h with rfl | h
            · first | exact hu | rfl
            · exact ha p h)
theorem regd_pure {cf : CallF} {n : Nat} {ms : List Mop} {as : List (List Nat)} {t : List (Nat × V)} {o : List (Nat × Ob)} (h1 : plainAll ms = true) (h2 : ms.length ≤ as.length) : stepsD cf n 0 ms as t o [] = stepsE cf n 0 ms t o :=
  stepsD_pure ms as 0 t o [] h1 h2 (by simp)
/-- the check that a drawn region is of that kind -/
def okD : List Mop → List (List Nat) → Bool
  | [], _ => true
  | _ :: _, [] => false
  | m :: ms, _ :: as => m.op.pure && (m.op.plainA && okD ms as)
theorem okD_both : ∀ (ms : List Mop) (as : List (List Nat)), okD ms as = true → plainAll ms = true ∧ ms.length ≤ as.length
  | [], as, _ => ⟨rfl, by simp⟩
  | m :: ms, [], h => by simp [okD] at h
  | m :: ms, a :: as, h => by
    simp only [okD, Bool.and_eq_true] at h
    have ih := okD_both ms as h.2.2
    exact ⟨by simp [plainAll, h.1, h.2.1, ih.1], by simp; exact ih.2⟩
def stepE (cf : CallF) (n i : Nat) (m : Mop) (t : List (Nat × V)) (o : List (Nat × Ob)) : Option (List (Nat × V)) := match wanted t m.guard with
  | some true => (actE cf (n + 16 * i) (m.dst.getD 0) t o m.op).map fun r => setT t m.dst r.1
  | some false => some (setT t m.dst .undef)
  | none => none
def stepsF (cf : CallF) (n : Nat) : Nat → List Mop → List (Nat × V) → List (Nat × Ob) → Option (List (Nat × V) × List (Nat × Ob))
  | _, [], t, o => some (t, o)
  | i, m :: ms, t, o => match stepE cf n i m t o with | some t' => stepsF cf n (i + 1) ms t' o | none => none
theorem stepsE_F {cf : CallF} {n : Nat} : ∀ (ms : List Mop) (i : Nat) (t : List (Nat × V)) (o : List (Nat × Ob)), stepsE cf n i ms t o = stepsF cf n i ms t o
  | [], i, t, o => by simp only [stepsE, stepsF]
  | m :: ms, i, t, o => by
    simp only [stepsE, stepsF, stepE]
    cases hw : wanted t m.guard with
    | none => rfl
    | some b =>
      cases b with
      | false => exact stepsE_F ms _ _ _
      | true =>
        cases hr : actE cf (n + 16 * i) (m.dst.getD 0) t o m.op with
        | none => rfl
        | some r => simp only [Option.map_some]; exact stepsE_F ms _ _ _
theorem regd_ok {cf : CallF} {n : Nat} {ms : List Mop} {as : List (List Nat)} {t : List (Nat × V)} {o : List (Nat × Ob)} (h : okD ms as = true) : stepsD cf n 0 ms as t o [] = stepsF cf n 0 ms t o := by
  rw [← stepsE_F]; exact regd_pure (okD_both ms as h).1 (okD_both ms as h).2
/-- drawn regions that write: who wrote what, who may have read what -/
def wsOf (acc : List (Nat × Ent)) : List (Nat × Nat) := acc.flatMap fun x => x.2.W.map fun y => (x.1, y)
def tsOf (acc : List (Nat × Ent)) : List (Nat × List Nat) := acc.map fun x => (x.1, x.2.T)
def okG (a : List Nat) (T : List Nat) (ups : List (Nat × Ob)) (ws : List (Nat × Nat)) (ts : List (Nat × List Nat)) : Bool :=
  ws.all (fun w => !T.contains w.2 || a.contains w.1) && (ups.all fun u => ts.all (fun x => !x.2.contains u.1 || a.contains x.1) && ws.all (fun w => !(u.1 == w.2) || a.contains w.1))
def stepsG (cf : CallF) (n : Nat) : Nat → List Mop → List (List Nat) → List (Nat × V) → List (Nat × Ob) → List (Nat × Nat) → List (Nat × List Nat) → Option (List (Nat × V) × List (Nat × Ob))
  | _, [], _, t, o, _, _ => some (t, o)
  | i, m :: ms, a :: as, t, o, ws, ts =>
    match entOf cf n i m t o with
    | some e => if okG a e.T e.ups ws ts then stepsG cf n (i + 1) ms as (setT t e.dst e.v) (e.ups ++ o) (e.ups.map (fun u => (i, u.1)) ++ ws) ((i, e.T) :: ts) else none
    | none => none
  | _, _ :: _, [], _, _, _, _ => none
theorem okG_eq (a : List Nat) (e : Ent) (acc : List (Nat × Ent)) : acc.all (fun x => a.contains x.1 || e.apart x.2) = okG a e.T e.ups (wsOf acc) (tsOf acc) := by
  rw [Bool.eq_iff_iff]
  simp only [okG, Ent.apart, wsOf, tsOf, Ent.W, List.all_eq_true, Bool.or_eq_true, Bool.and_eq_true, Bool.not_eq_true', List.mem_flatMap, List.mem_map, beq_eq_false_iff_ne]
  constructor
  · intro h
    refine ⟨?_, fun u hu => ⟨?_, ?_⟩⟩
    · rintro w ⟨x, hx, y, ⟨u, hu, rfl⟩, rfl⟩
      rcases h x hx with h1 | h1
      · exact .inr h1
      · exact .inl (h1.2 u.1 ⟨u, hu, rfl⟩)
    · rintro y ⟨x, hx, rfl⟩
      rcases h x hx with h1 | h1
      · exact .inr h1
      · exact .inl (h1.1 u.1 ⟨u, hu, rfl⟩).1
    · rintro w ⟨x, hx, y, ⟨u', hu', rfl⟩, rfl⟩
      rcases h x hx with h1 | h1
      · exact .inr h1
      · left
        have h2 := (h1.1 u.1 ⟨u, hu, rfl⟩).2
        rintro e'
        have h3 : List.contains (List.map (fun x => x.fst) x.2.ups) u.1 = true := by
          rw [List.contains_iff_mem, List.mem_map]; exact ⟨u', hu', e'.symm⟩
        rw [h3] at h2; cases h2
  · rintro ⟨h1, h2⟩ x hx
    by_cases ha : a.contains x.1 = true
    · exact .inl ha
    · right
      refine ⟨?_, ?_⟩
      · rintro y ⟨u, hu, rfl⟩
        refine ⟨?_, ?_⟩
        · rcases (h2 u hu).1 (x.1, x.2.T) ⟨x, hx, rfl⟩ with h3 | h3
          · exact h3
          · exact (ha h3).elim
        · cases hc : List.contains (List.map (fun x => x.fst) x.2.ups) u.1 with
          | false => rfl
          | true =>
            rw [List.contains_iff_mem, List.mem_map] at hc
            obtain ⟨u', hu', e'⟩ := hc
            rcases (h2 u hu).2 (x.1, u'.1) ⟨x, hx, u'.1, ⟨u', hu', rfl⟩, rfl⟩ with h3 | h3
            · exact (h3 e'.symm).elim
            · exact (ha h3).elim
      · rintro y ⟨u, hu, rfl⟩
        rcases h1 (x.1, u.1) ⟨x, hx, u.1, ⟨u, hu, rfl⟩, rfl⟩ with h3 | h3
        · exact h3
        · exact (ha h3).elim
theorem stepsD_G {cf : CallF} {n : Nat} : ∀ (ms : List Mop) (as : List (List Nat)) (i : Nat) (t : List (Nat × V)) (o : List (Nat × Ob)) (acc : List (Nat × Ent)),
    stepsD cf n i ms as t o acc = stepsG cf n i ms as t o (wsOf acc) (tsOf acc)
  | [], as, i, t, o, acc => by simp only [stepsD, stepsG]
  | m :: ms, [], i, t, o, acc => by simp only [stepsD, stepsG]
  | m :: ms, a :: as, i, t, o, acc => by
    simp only [stepsD, stepsG]
    cases he : entOf cf n i m t o with
    | none => rfl
    | some e =>
      simp only [okG_eq a e acc]
      split
      · rw [stepsD_G ms as (i + 1)]
        congr 1
        simp [wsOf, Ent.W]
      · rfl
theorem regd_G {cf : CallF} {n : Nat} {ms : List Mop} {as : List (List Nat)} {t : List (Nat × V)} {o : List (Nat × Ob)} : stepsD cf n 0 ms as t o [] = stepsG cf n 0 ms as t o [] [] := stepsD_G ms as 0 t o []
section
variable {cf : CallF} {n d : Nat} {t : List (Nat × V)} {o : List (Nat × Ob)}
theorem actE_call {f : Nat} {as : List O} {l : List Nat} {h : List (Nat × Nat)} : actE cf n d t o (.call f as l h) = act cf n d t (keep (touch t o (.call f as l h)) o) (.call f as l h) := rfl
theorem actE_mv (x : O) : actE cf n d t o (.mv x) = act cf n d t o (.mv x) := rfl
theorem actE_pick (c a b : O) : actE cf n d t o (.pick c a b) = act cf n d t o (.pick c a b) := rfl
theorem actE_load (agg : Bool) (k : Nat) (a : O) : actE cf n d t o (.load agg k a) = act cf n d t o (.load agg k a) := rfl
theorem actE_beq (neg : Bool) (x y : O) : actE cf n d t o (.beq neg x y) = act cf n d t o (.beq neg x y) := rfl
theorem actE_bin (op : BinOp) (x y : O) : actE cf n d t o (.bin op x y) = act cf n d t o (.bin op x y) := rfl
theorem actE_eqs (neg : Bool) (ks : List Kc) (x y : O) : actE cf n d t o (.eqs neg ks x y) = act cf n d t o (.eqs neg ks x y) := rfl
theorem actE_not (x : O) : actE cf n d t o (.not x) = act cf n d t o (.not x) := rfl
theorem actE_neg (x : O) : actE cf n d t o (.neg x) = act cf n d t o (.neg x) := rfl
theorem actE_i2i (k : IntKind) (x : O) : actE cf n d t o (.i2i k x) = act cf n d t o (.i2i k x) := rfl
theorem actE_sstr (x : O) (lo hi : Option O) : actE cf n d t o (.sstr x lo hi) = act cf n d t o (.sstr x lo hi) := rfl
theorem actE_faddr (off : Nat) (a : O) : actE cf n d t o (.faddr off a) = act cf n d t o (.faddr off a) := rfl
theorem actE_iaddr (sz : Nat) (x ix : O) : actE cf n d t o (.iaddr sz x ix) = act cf n d t o (.iaddr sz x ix) := rfl
theorem actE_idx (x ix : O) : actE cf n d t o (.idx x ix) = act cf n d t o (.idx x ix) := rfl
theorem actE_fld (agg : Bool) (off k : Nat) (x : O) : actE cf n d t o (.fld agg off k x) = act cf n d t o (.fld agg off k x) := rfl
theorem actE_ext (i : Nat) (x : O) : actE cf n d t o (.ext i x) = act cf n d t o (.ext i x) := rfl
theorem actE_len (x : O) : actE cf n d t o (.len x) = act cf n d t o (.len x) := rfl
theorem actE_slen (x : O) : actE cf n d t o (.slen x) = act cf n d t o (.slen x) := rfl
theorem actE_max (x y : O) : actE cf n d t o (.max x y) = act cf n d t o (.max x y) := rfl
theorem actE_min (x y : O) : actE cf n d t o (.min x y) = act cf n d t o (.min x y) := rfl
end
attribute [simp high] regd_ok
attribute [simp low] regd_G
attribute [simp] actE_call actE_mv actE_pick actE_load actE_beq actE_bin actE_eqs actE_not actE_neg actE_i2i actE_sstr actE_faddr actE_iaddr actE_idx actE_fld actE_ext actE_len actE_slen actE_max actE_min
attribute [simp] stepE stepsF stepsG okG okD MO.pure MO.plainA O.plain entOf touch MO.eyes MO.tmps O.tmps idsV idsT idsO Ent.apart Ent.W
end Mx

namespace Mx
open Go
def impl_within.b : C := .seq (.reg [Qb 6 false] [0,1,2] [])
  (.seq (.reg [Qm 7 0, Qm 8 1, Q 9 (.bin .geq (.t 7) (.t 8)), Qm 10 9, Qg 11 (.mv (.t 0)) 10 true, Qg 12 (.mv (.t 2)) 10 true, Qg 13 (.bin .leq (.t 11) (.t 12)) 10 true,
    Q 14 (.pick (.t 10) (.t 13) (kB false)), Qm 6 14] [6] [])
  (.ret))
def impl_within.m : Fn := { np := 3, body := impl_within.b, res := [.tmp 6] }
def impl_within.k (M : Nat → Option Body) : Prop := M 101 = some (.code impl_within.m)
end Mx

namespace Mx
open Go Go.RowKit
/-- memory as the arguments find it -/
def x0 (F : Nat → FuncId) (w : World) : Cx := { w := w, U := fun _ => False, E := fun _ => none, F := F }
theorem row_calls {P : Program} {F : Nat → FuncId} {M : Nat → Option Body} (hM : TableOk P F M) {f : Nat} {as : List V} {b : Bool} (h : run M f as [] = some (.c (.bool b), [])) {vals : Array Value} {w : World}
    (hG : GlobOk F (fun _ => False) w) (hn : as.length = vals.size) (hr : ∀ (i : Nat) (v : V) (x : Value), as[i]? = some v → vals[i]? = some x → RepV (x0 F w) v x) :
    Calls P (F f) vals w fun e W' => e = .returned (.bool b) ∧ Below w.heap.size w W' := by
  obtain ⟨_, hc⟩ := run_ok hM f as [] _ _ h
  have K : Keeps (x0 F w) (cx F (fun _ => False) (fun _ => none) [] w) := by
    refine ⟨rfl, fun v l h => (by cases h), fun ad v _ hcell => ⟨hcell, ?_⟩⟩
    rintro (⟨id, ob, cap, sz, g1, _⟩ | h)
    · simp [get] at g1
    · exact h
  have En : Entry F (fun _ => False) (fun _ => none) as [] vals w :=
    ⟨hn, fun i v x h1 h2 => (hr i v x h1 h2).mono K, fun p ob h => (by simp [get] at h), fun p ob b cap sz h => (by simp [get] at h), fun p p2 ob ob2 b cap sz cap2 sz2 h => (by simp [get] at h), fun v l h => (by cases h), ⟨fun b h => h.elim, hG.imp id fun g => ⟨g.1, fun ⟨p, ob, cap, sz, h1, _⟩ => by simp [get] at h1, g.2.2⟩⟩⟩
  refine (hc (fun _ => False) (fun _ => none) vals w En).mono ?_
  rintro e w' ⟨val, E', own, rfl, B⟩
  have hres := B.res
  have hv : val = .bool b := by
    simp only [ResA, ResV] at hres
    cases hres with | bool b => rfl
  refine ⟨by rw [hv], B.os, B.tape, B.output, B.size, fun k hk => B.frame k hk ?_⟩
  rintro ⟨p, ob, cap, sz, h1, _⟩
  simp [get] at h1
end Mx

namespace Mx
open Go
/-- types of cells -/
inductive Ct where
  | int (k : IntKind)
  | bool
  | str
  | sl (row : List Ct)
inductive Has : Ct → T → Prop
  | int (k : IntKind) (n : Int) (h : (Lit.int k n).wf = true) : Has (.int k) (.int k n)
  | bool (b : Bool) : Has .bool (.bool b)
  | str (s : ByteArray) (h : s.size ≤ maxLen) : Has .str (.str s)
  | sl (row : List Ct) (rows : List (List T)) (hl : rows.length ≤ maxLen) (h : ∀ (i : Nat) (r : List T), rows[i]? = some r → r.length = row.length)
      (h2 : ∀ (i j : Nat) (r : List T) (c : Ct) (t : T), rows[i]? = some r → row[j]? = some c → r[j]? = some t → Has c t) : Has (.sl row) (.sl false row.length rows)
/-- a row of cells of given types -/
def HasL (cs : List Ct) (ts : List T) : Prop := ts.length = cs.length ∧ ∀ (j : Nat) (c : Ct) (t : T), cs[j]? = some c → ts[j]? = some t → Has c t
mutual
/-- is this the flat type? -/
def okCt (P : Program) : Nat → Ct → TypeId → Bool
  | 0, _, _ => false
  | _ + 1, .int k, t => isIntT P t k
  | _ + 1, .bool, t => isBoolT P t
  | _ + 1, .str, t => isStrT P t
  | f + 1, .sl row, t => match sliceElem P t with | some e => okCts P f row e && (P.cellsOf e == row.length) | none => false
def okCts (P : Program) : Nat → List Ct → TypeId → Bool
  | 0, _, _ => false
  | f + 1, cs, t => match structF P t with
    | some fs => (P.cellsOf t == cs.length) && okFields P f 0 cs fs.toList
    | none => match cs with | [c] => okCt P f c t | _ => false
def okFields (P : Program) : Nat → Nat → List Ct → List Field → Bool
  | 0, _, _, _ => false
  | _ + 1, _, cs, [] => cs.isEmpty
  | f + 1, off, cs, fd :: fs => (fd.offset == off) && decide (P.cellsOf fd.type ≤ cs.length) && okCts P f (cs.take (P.cellsOf fd.type)) fd.type && okFields P f (off + P.cellsOf fd.type) (cs.drop (P.cellsOf fd.type)) fs
end
variable {P : Program} {F : Nat → FuncId} {w : World} {H : Type} {enc : TypeId × Value → H} {base : Nat} {sp : Nat → Bool} {held : Bool}
theorem HasL.one {c : Ct} {t : T} (h : Has c t) : HasL [c] [t] := ⟨rfl, fun j c' t' h1 h2 => by
  cases j with
  | zero => simp at h1 h2; subst h1 h2; exact h
  | succ j => simp at h1⟩
theorem HasL.append {cs ds : List Ct} {ts us : List T} (h : HasL cs ts) (k : HasL ds us) : HasL (cs ++ ds) (ts ++ us) := by
  refine ⟨by simp [h.1, k.1], fun j c t h1 h2 => ?_⟩
  rw [List.getElem?_append] at h1 h2
  rw [h.1] at h2
  split at h1
  · rename_i hj; rw [if_pos hj] at h2; exact h.2 j c t h1 h2
  · rename_i hj; rw [if_neg hj] at h2; exact k.2 _ c t h1 h2
theorem typed_all : ∀ (f : Nat),
    (∀ (c : Ct) (t : TypeId) (vs : List Value) (fuel : Nat) (x : DataW H × List MemPlace), okCt P f c t = true → DataW.trod enc P w base sp held fuel t vs = some x → ∃ u v, vs = [v] ∧ Has c u ∧ Rep (x0 F w) u v) ∧
    (∀ (cs : List Ct) (t : TypeId) (vs : List Value) (fuel : Nat) (x : DataW H × List MemPlace), okCts P f cs t = true → DataW.trod enc P w base sp held fuel t vs = some x → ∃ ts, HasL cs ts ∧ RepL (x0 F w) ts vs) ∧
    (∀ (off : Nat) (cs : List Ct) (fs : List Field) (vs : List Value), okFields P f off cs fs = true → vs.length = off + cs.length →
      (∀ fd ∈ fs, ∃ n x, DataW.trod enc P w base sp held n fd.type ((vs.drop fd.offset).take (P.cellsOf fd.type)) = some (x : DataW H × List MemPlace)) → ∃ ts, HasL cs ts ∧ RepL (x0 F w) ts (vs.drop off)) := by
  intro f
  induction f with
  | zero => exact ⟨fun c t vs fuel x h => by simp [okCt] at h, fun cs t vs fuel x h => by simp [okCts] at h, fun off cs fs vs h => by simp [okFields] at h⟩
  | succ f ih =>
    obtain ⟨ih1, ih2, ih3⟩ := ih
    have A : ∀ (c : Ct) (t : TypeId) (vs : List Value) (fuel : Nat) (x : DataW H × List MemPlace), okCt P (f + 1) c t = true → DataW.trod enc P w base sp held fuel t vs = some x → ∃ u v, vs = [v] ∧ Has c u ∧ Rep (x0 F w) u v := by
      intro c t vs fuel x hok h
      cases fuel with
      | zero => simp [DataW.trod] at h
      | succ n =>
        cases c with
        | int k =>
          have hu := isInt_u hok
          unfold DataW.trod at h
          rw [hu] at h
          split at h <;> simp_all
          rename_i k' m
          obtain ⟨⟨rfl, hwf⟩, _⟩ := h
          exact ⟨_, .int _ _ hwf, .int _ _⟩
        | bool =>
          have hu := isBool_u hok
          unfold DataW.trod at h
          rw [hu] at h
          split at h <;> simp_all
          exact ⟨_, .bool _, .bool _⟩
        | str =>
          have hu := isStr_u hok
          unfold DataW.trod at h
          rw [hu] at h
          split at h <;> simp_all
          exact ⟨_, .str _ h.1, .str _⟩
        | sl row =>
          simp only [okCt] at hok
          split at hok
          · rename_i e he
            simp only [Bool.and_eq_true, beq_iff_eq] at hok
            rcases Go.Deep.open_slice (slice_u he) h with ⟨rfl, _⟩ | ⟨a, len, cap, m, n', D, Pl, rfl, hb, hl, hm, hmm, _, hx⟩
            · exact ⟨.sl false row.length [], _, rfl, .sl row [] (by simp) (fun i r h => by simp at h) (fun i j r c t h => by simp at h), Rep.empty _ _ _ _⟩
            · have hlm : len ≤ m := by rw [hmm]; split <;> omega
              have each : ∀ i, i < len → ∃ r cs', HasL row r ∧ RepL (x0 F w) r cs' ∧ ∀ q, q < row.length → w.cell? ((a.add (i * row.length)).add q) = cs'[q]? := by
                intro i hi
                obtain ⟨cs', h1, h2⟩ := hx i (by omega)
                obtain ⟨r, h3, h4⟩ := ih2 row e cs' n' _ hok.1 h2
                obtain ⟨_, h5, h6⟩ := World.cells?_some h1
                rw [hok.2] at h6
                exact ⟨r, cs', h3, h4, h6⟩
              have hrows : ∀ k, k ≤ len → ∃ rows : List (List T), rows.length = k ∧ ∀ i r, rows[i]? = some r → ∃ cs', HasL row r ∧ RepL (x0 F w) r cs' ∧ ∀ q, q < row.length → w.cell? ((a.add (i * row.length)).add q) = cs'[q]? := by
                intro k
                induction k with
                | zero => intro _; exact ⟨[], rfl, fun i r h => by simp at h⟩
                | succ k ihl =>
                  intro hk
                  obtain ⟨rows, h1, h2⟩ := ihl (by omega)
                  obtain ⟨r, cs', h3, h4, h5⟩ := each k (by omega)
                  refine ⟨rows ++ [r], by simp [h1], fun i r' hr => ?_⟩
                  rw [List.getElem?_append] at hr
                  split at hr
                  · exact h2 i r' hr
                  · rename_i hge
                    have : i - rows.length = 0 := by
                      rcases Nat.eq_zero_or_pos (i - rows.length) with q | q
                      · exact q
                      · rw [List.getElem?_eq_none (by simp; omega)] at hr; cases hr
                    rw [this] at hr
                    simp at hr; subst hr
                    have : i = k := by omega
                    subst this
                    exact ⟨cs', h3, h4, h5⟩
              obtain ⟨rows, hlen, hrow⟩ := hrows len (Nat.le_refl _)
              have key : ∀ (i j : Nat) (r : List T) (t : T), rows[i]? = some r → r[j]? = some t → ∃ v, w.cell? (a.add (i * row.length + j)) = some v ∧ Rep (x0 F w) t v := by
                intro i j r t hi hj
                obtain ⟨cs', h3, h4, h5⟩ := hrow i r hi
                have hjl : j < r.length := (List.getElem?_eq_some_iff.1 hj).1
                have h6 := h5 j (by rw [← h3.1]; exact hjl)
                have hjc : j < cs'.length := by rw [← h4.1]; exact hjl
                rw [add_add] at h6
                refine ⟨cs'[j], by rw [h6]; simp [hjc], h4.2 j t cs'[j] hj (by simp [hjc])⟩
              have hcl : ∀ (c : Ct) (t : T), Has c t → Closed t := by
                intro c t h
                induction h with
                | int => exact .int _ _
                | bool => exact .bool _
                | str => exact .str _
                | sl row rows hl h h2 ih =>
                  refine .sl _ _ _ fun i j r t hr ht => ?_
                  have hj : j < row.length := by rw [← h i r hr]; exact (List.getElem?_eq_some_iff.1 ht).1
                  exact ih i j r row[j] t hr (by simp [hj]) ht
              refine ⟨.sl false row.length rows, _, rfl, .sl row rows (by omega) (fun i r hr => (hrow i r hr).choose_spec.1.1) (fun i j r c t hr hc ht => (hrow i r hr).choose_spec.1.2 j c t hc ht), ?_⟩
              have := Rep.sl (X := x0 F w) false row.length rows (some a) cap (fun i j => (w.cell? (a.add (i * row.length + j))).getD undef) (by omega) (fun i r hr => (hrow i r hr).choose_spec.1.1)
                (fun i j r t hr ht => by obtain ⟨v, h1, _⟩ := key i j r t hr ht; exact ⟨a, rfl, fun h => h, by show w.cell? _ = _; rw [h1]; rfl⟩)
                (fun i j r t hr ht => by obtain ⟨v, h1, h2⟩ := key i j r t hr ht; rw [h1]; exact h2)
                (fun i j r t hr ht => by
                  obtain ⟨cs', h3, _⟩ := hrow i r hr
                  have hj : j < row.length := by rw [← h3.1]; exact (List.getElem?_eq_some_iff.1 ht).1
                  exact hcl _ _ (h3.2 j row[j] t (by simp [hj]) ht))
              rw [hlen] at this
              exact this
          · cases hok
    refine ⟨A, ?_, ?_⟩
    · intro cs t vs fuel x hok h
      simp only [okCts] at hok
      split at hok
      · rename_i fs hfs
        simp only [Bool.and_eq_true, beq_iff_eq] at hok
        obtain ⟨xs, n, _, _, hlen, hxl, hxs⟩ := DataW.trod_struct (struct_u hfs) h
        obtain ⟨ts, h1, h2⟩ := ih3 0 cs fs.toList vs hok.2 (by omega) (fun fd hfd => by
          obtain ⟨i, hi⟩ := List.getElem?_of_mem hfd
          have hi' : fs[i]? = some fd := by simpa using hi
          have := hxs i fd hi'
          have hlt : i < xs.length := by rw [hxl]; exact (Array.getElem?_eq_some_iff.1 hi').1
          exact ⟨n, xs[i], by rw [this]; simp [hlt]⟩)
        exact ⟨ts, h1, by simpa using h2⟩
      · split at hok
        · rename_i c
          obtain ⟨u, v, rfl, h1, h2⟩ := ih1 c t vs fuel x hok h
          exact ⟨[u], .one h1, .cons h2 (.nil _)⟩
        · cases hok
    · intro off cs fs vs hok hlen hfd
      cases fs with
      | nil =>
        simp only [okFields, List.isEmpty_iff] at hok
        subst hok
        refine ⟨[], ⟨rfl, fun j c t h => by simp at h⟩, ?_⟩
        rw [List.drop_eq_nil_of_le (by simp at hlen; omega)]
        exact .nil _
      | cons fd fs =>
        simp only [okFields, Bool.and_eq_true, beq_iff_eq, decide_eq_true_eq] at hok
        obtain ⟨⟨⟨h1, hk⟩, h2⟩, h3⟩ := hok
        obtain ⟨n, x, hx⟩ := hfd fd (List.mem_cons_self ..)
        obtain ⟨ts1, k1, k2⟩ := ih2 _ _ _ _ _ h2 hx
        have hl1 := k1.1
        have hl2 := k2.1
        rw [h1] at k2 hl2
        obtain ⟨ts2, m1, m2⟩ := ih3 (off + P.cellsOf fd.type) (cs.drop (P.cellsOf fd.type)) fs vs h3 (by simp; omega) (fun fd' h => hfd fd' (List.mem_cons_of_mem _ h))
        refine ⟨ts1 ++ ts2, ?_, ?_⟩
        · have := k1.append m1
          rwa [List.take_append_drop] at this
        · have := k2.append m2
          rw [← List.drop_drop, List.take_append_drop] at this
          exact this
theorem arg_struct {f : Nat} {cs : List Ct} {t : TypeId} {fs : Array Field} {v : Value} {d : DataW H} {ps : List MemPlace} {r : Reach} {b : Nat} {w' : World} (hs : structF P t = some fs) (hok : okCts P f cs t = true)
    (hv : Value.okWide P w' r b t v) (h : DataW.Trod enc P w base sp held t v d ps) : ∃ ts, HasL cs ts ∧ RepV (x0 F w) (.a ts) v := by
  obtain ⟨fuel, h⟩ := h
  obtain ⟨ts, h1, h2⟩ := (typed_all (F := F) f).2.1 cs t _ fuel _ hok h
  unfold Value.okWide at hv
  rw [struct_u hs] at hv
  obtain ⟨vs, rfl, _⟩ := hv
  refine ⟨ts, h1, ?_⟩
  have := RepV.ofL h2
  simpa [Value.cells] using this
theorem cells_one {v u : Value} (h : v.cells.toList = [u]) (hn : ∀ cs, v ≠ .agg cs) : v = u := by
  cases v with
  | agg cs => exact (hn cs rfl).elim
  | _ => simp [Value.cells] at h; exact h
theorem arg_cell {f : Nat} {c : Ct} {t : TypeId} {v : Value} {d : DataW H} {ps : List MemPlace} {r : Reach} {b : Nat} {w' : World} (hok : okCt P f c t = true)
    (hv : Value.okWide P w' r b t v) (h : DataW.Trod enc P w base sp held t v d ps) : ∃ u, Has c u ∧ Rep (x0 F w) u v := by
  obtain ⟨fuel, h⟩ := h
  obtain ⟨u, x, h0, h1, h2⟩ := (typed_all (F := F) f).1 c t _ fuel _ hok h
  have : v = x := by
    refine cells_one h0 fun cs e => ?_
    subst e
    cases f with
    | zero => simp [okCt] at hok
    | succ f =>
      cases c with
      | int k => simp [Value.okWide, Cell.okWide, isInt_u hok, Cell.ok] at hv
      | bool => simp [Value.okWide, Cell.okWide, isBool_u hok, Cell.ok] at hv
      | str => simp [Value.okWide, Cell.okWide, isStr_u hok, Cell.ok] at hv
      | sl row =>
        simp only [okCt] at hok
        split at hok
        · rename_i e he
          simp [Value.okWide, Cell.okWide, slice_u he, Cell.ok] at hv
        · cases hok
  rw [this]; exact ⟨u, h1, h2⟩
end Mx

namespace Mx
open Go Go.RowKit Go.ChangeShapes
/-- kinds of arguments -/
inductive Ak where
  | cell (c : Ct)
  | struct (cs : List Ct)
inductive HasV : Ak → V → Prop
  | cell {c : Ct} {u : T} (h : Has c u) : HasV (.cell c) (.c u)
  | struct {cs : List Ct} {ts : List T} (h : HasL cs ts) : HasV (.struct cs) (.a ts)
inductive HasVs : List Ak → List V → Prop
  | nil : HasVs [] []
  | cons {k : Ak} {v : V} {ks : List Ak} {vs : List V} (h : HasV k v) (hs : HasVs ks vs) : HasVs (k :: ks) (v :: vs)
def okArg (P : Program) (f : Nat) : Ak → TypeId → Bool
  | .cell c, t => okCt P f c t && P.readableRec t && decide (t < P.types.size)
  | .struct cs, t => (structF P t).isSome && okCts P f cs t && P.readableRec t && decide (t < P.types.size)
def okArgs (P : Program) (f : Nat) : List Ak → List TypeId → Bool
  | [], [] => true
  | k :: ks, t :: ts => okArg P f k t && okArgs P f ks ts
  | _, _ => false
variable {P : Program} {F : Nat → FuncId} {w : World} {H : Type} {enc : TypeId × Value → H}
theorem okArg_read {f : Nat} {k : Ak} {t : TypeId} (h : okArg P f k t = true) : P.readableRec t = true ∧ t < P.types.size := by
  cases k <;> simp only [okArg, Bool.and_eq_true, decide_eq_true_eq] at h
  · exact ⟨h.1.2, h.2⟩
  · exact ⟨h.1.2, h.2⟩
theorem args_typed {f : Nat} {w' : World} {r : Reach} {b : Nat} {base : Nat} {sp : Nat → Bool} {held : Bool} : ∀ (ks : List Ak) (ts : List TypeId) (vs : List Value) (ds : List (DataW H)) (ps : List MemPlace), okArgs P f ks ts = true →
    DataW.TrodAll enc P w base sp held ts vs ds ps → (∀ (j : Nat) t v, ts[j]? = some t → vs[j]? = some v → Value.okWide P w' r b t v) →
    ∃ as, HasVs ks as ∧ as.length = vs.length ∧ ds.length = ks.length ∧ ∀ (i : Nat) (v : V) (x : Value), as[i]? = some v → vs[i]? = some x → RepV (x0 F w) v x := by
  intro ks
  induction ks with
  | nil =>
    intro ts vs ds ps hok h _
    cases ts with
    | cons => cases hok
    | nil =>
      obtain ⟨rfl, rfl, _⟩ := trodAll_nil h
      exact ⟨[], .nil, rfl, rfl, fun i v x h => by simp at h⟩
  | cons k ks ih =>
    intro ts vs ds ps hok h hv
    cases ts with
    | nil => cases hok
    | cons t ts =>
      simp only [okArgs, Bool.and_eq_true] at hok
      obtain ⟨v, vs', d, ds', p, q, rfl, rfl, rfl, h1, h2⟩ := trodAll_cons h
      obtain ⟨as, g1, g2, g3, g4⟩ := ih ts vs' ds' q hok.2 h2 (fun j t v h1 h2 => hv (j + 1) t v (by simpa using h1) (by simpa using h2))
      have hv0 := hv 0 t v rfl rfl
      have hk : ∃ a, HasV k a ∧ RepV (x0 F w) a v := by
        cases k with
        | cell c =>
          have ho := hok.1
          simp only [okArg, Bool.and_eq_true] at ho
          obtain ⟨u, k1, k2⟩ := arg_cell (F := F) ho.1.1 hv0 h1
          exact ⟨.c u, .cell k1, .c _ _ k2⟩
        | struct cs =>
          have ho := hok.1
          simp only [okArg, Bool.and_eq_true] at ho
          obtain ⟨fs, hfs⟩ := Option.isSome_iff_exists.1 ho.1.1.1
          obtain ⟨ts', k1, k2⟩ := arg_struct (F := F) hfs ho.1.1.2 hv0 h1
          exact ⟨.a ts', .struct k1, k2⟩
      obtain ⟨a, k1, k2⟩ := hk
      refine ⟨a :: as, .cons k1 g1, by simp [g2], by simp [g3], fun i v' x h1 h2 => ?_⟩
      cases i with
      | zero => simp at h1 h2; subst h1 h2; exact k2
      | succ i => exact g4 i v' x (by simpa using h1) (by simpa using h2)
theorem trod_below {f : Nat} (hl : laidOutB P = true) {W' : World} (hb : Below w.heap.size w W') : ∀ (ks : List Ak) (ts : List TypeId) (vs : List Value) (ds : List (DataW H)) (ps : List MemPlace), okArgs P f ks ts = true →
    DataW.TrodAll enc P w 0 (fun _ => true) true ts vs ds ps → (∀ x ∈ ps, x.block < w.heap.size) → DataW.TrodAll enc P W' 0 (fun b => decide (b < w.heap.size)) true ts vs ds ps := by
  intro ks
  induction ks with
  | nil =>
    intro ts vs ds ps hok h _
    cases ts with
    | cons => cases hok
    | nil =>
      obtain ⟨rfl, rfl, rfl⟩ := trodAll_nil h
      exact trodAll_mk0
  | cons k ks ih =>
    intro ts vs ds ps hok h hlt
    cases ts with
    | nil => cases hok
    | cons t ts =>
      simp only [okArgs, Bool.and_eq_true] at hok
      obtain ⟨v, vs', d, ds', p, q, rfl, rfl, rfl, h1, h2⟩ := trodAll_cons h
      obtain ⟨r1, r2⟩ := okArg_read hok.1
      exact trodAll_cons_mk (Below.trod hl r1 r2 h1 hb (fun x hx => hlt x (List.mem_append_left _ hx))) (ih ts vs' ds' q hok.2 h2 (fun x hx => hlt x (List.mem_append_right _ hx)))
def tabF (num : List (Nat × Nat)) (f : Nat) : FuncId := (get num f).getD 0
end Mx

namespace Mx
open Go
def valT : T → Option Value
  | .int k n => some (.int k n)
  | .bool b => some (.bool b)
  | .str s => some (.string s)
  | _ => none
def cellV : V → Option T
  | .c t => some t
  | _ => none
def extG (g : List T → Option T) (as : List V) (lent : List (Nat × Ob)) : Option (V × List (Nat × Ob)) :=
  if lent.isEmpty then (match mapO cellV as with | some ts => (g ts).map fun r => (.c r, []) | none => none) else none
variable {P : Program} {F : Nat → FuncId}
theorem repV_val {X : Cx} {t : T} {v x : Value} (h : RepV X (.c t) x) (hv : valT t = some v) : x = v := by
  cases h with | c _ _ h =>
  cases t <;> simp [valT] at hv <;> subst hv <;> cases h <;> rfl
theorem resT_val {X : Cx} {own : Nat → Option Loc} {lent : List (Nat × Ob)} {q : Nat} {t : T} {v : Value} (hv : valT t = some v) : ResT X own lent q t v := by
  cases t <;> simp [valT] at hv <;> subst hv
  · exact .int _ _
  · exact .bool _
  · exact .str _
theorem mapO_len {α β : Type} {f : α → Option β} : ∀ {l : List α} {r : List β}, mapO f l = some r → r.length = l.length
  | [], r, h => by simp [mapO] at h; subst h; rfl
  | a :: l, r, h => by
    simp only [mapO] at h
    split at h <;> cases h
    rename_i y ys h1 h2
    simp [mapO_len h2]
theorem mapO_at {α β : Type} {f : α → Option β} : ∀ {l : List α} {r : List β} {i : Nat} {a : α}, mapO f l = some r → l[i]? = some a → ∃ b, r[i]? = some b ∧ f a = some b
  | [], r, i, a, h, hi => by simp at hi
  | x :: l, r, i, a, h, hi => by
    simp only [mapO] at h
    split at h <;> cases h
    rename_i y ys h1 h2
    cases i with
    | zero => simp at hi; subst hi; exact ⟨y, rfl, h1⟩
    | succ i => simpa using mapO_at h2 (by simpa using hi)
theorem ext_plain {f : Nat} {g : List T → Option T} (hf : okFn P F f = true)
    (h : ∀ ts r, g ts = some r → ∃ xs x, mapO valT ts = some xs ∧ valT r = some x ∧ ∀ w, Calls P (F f) xs.toArray w fun e w' => e = .returned x ∧ w' = w) : ExtOk P F f (extG g) := by
  intro as lent res after hg
  refine ⟨hf, fun Pr E0 vals w En => ?_⟩
  unfold extG at hg
  split at hg
  · rename_i hl
    rw [List.isEmpty_iff] at hl
    subst hl
    split at hg
    · rename_i ts hts
      simp only [Option.map_eq_some_iff] at hg
      obtain ⟨r, hr, hg⟩ := hg
      cases hg
      obtain ⟨xs, x, h1, h2, h3⟩ := h ts r hr
      have hv : vals = xs.toArray := by
        apply Array.ext
        · rw [← En.n, List.size_toArray, mapO_len h1, mapO_len hts]
        · intro i hi hi'
          have hi1 : i < as.length := by rw [En.n]; exact hi
          obtain ⟨t, k1, k2⟩ := mapO_at hts (List.getElem?_eq_getElem hi1)
          obtain ⟨v, k3, k4⟩ := mapO_at h1 k1
          have k5 := En.args i as[i] vals[i] (List.getElem?_eq_getElem hi1) (Array.getElem?_eq_getElem hi)
          have e1 : as[i] = .c t := by
            cases ha : as[i] with
            | c t' => rw [ha] at k2; simp [cellV] at k2; rw [k2]
            | a ts => rw [ha] at k2; simp [cellV] at k2
            | tup ts => rw [ha] at k2; simp [cellV] at k2
            | undef => rw [ha] at k2; simp [cellV] at k2
          rw [e1] at k5
          have := repV_val k5 k4
          rw [this]
          have e2 : xs[i]? = some v := k3
          have hi2 : i < xs.length := by simpa using hi'
          rw [List.getElem?_eq_getElem hi2] at e2
          simpa using (Option.some.inj e2).symm
      subst hv
      refine (h3 w).mono ?_
      rintro e w' ⟨rfl, rfl⟩
      refine ⟨x, E0, fun _ => none, rfl, rfl, rfl, rfl, Nat.le_refl _, fun b _ _ => rfl, fun v l h => h, fun q b cap sz h => (by cases h), fun q q' b cap sz cap' sz' h => (by cases h), ?_, fun p ob ob' l h => (by simp [get] at h)⟩
      simp only [ResA, ResV]
      exact resT_val h2
    · cases hg
  · cases hg
theorem run_ext_plain {M : Nat → Option Body} {f : Nat} {g : List T → Option T} (hM : M f = some (.ext (extG g))) {ts : List T} {r : T} (h : g ts = some r) : run M f (ts.map .c) [] = some (.c r, []) := by
  refine run_ext hM ?_
  have : mapO cellV (ts.map .c) = some ts := by
    induction ts with
    | nil => rfl
    | cons t ts ih => simp only [List.map_cons, mapO, cellV]; rw [show mapO cellV (ts.map .c) = some ts from by clear ih h; induction ts with | nil => rfl | cons t ts ih => simp only [List.map_cons, mapO, cellV, ih]]
  simp only [extG, List.isEmpty_nil, if_true, this, h, Option.map_some]
end Mx

namespace Mx
open Go
/-- strings.ContainsRune at a rune of one byte -/
def strings_ContainsRune.g : List T → Option T
  | [.str s, .int .i32 r] => if 0 ≤ r ∧ r < 128 then some (.bool (decide (0 ≤ Lib.indexByte s.data.toList r.toNat.toUInt8))) else none
  | _ => none
end Mx

namespace Mx
open Go
def impl_isAtom.b : C := .seq (.reg [Qb 2 false] [0] [])
  (.seq (.reg [Qm 3 0, Q 4 (.bin .geq (.t 3) (.k (.int .u8 33))), Qm 5 4, Qg 6 (.mv (.t 0)) 5 true, Qg 7 (.bin .leq (.t 6) (.k (.int .u8 126))) 5 true, Q 8 (.pick (.t 5) (.t 7) (kB false)),
    Qm 9 8, Qg 10 (.mv (.t 0)) 9 true, Qg 11 (.i2i .i32 (.t 10)) 9 true, Qg 12 (.call 290 [.k (.str ⟨#[34,40,41,123,125,92]⟩), .t 11] [] []) 9 true, Qg 13 (.not (.t 12)) 9 true,
    Q 14 (.pick (.t 9) (.t 13) (kB false)), Qm 2 14] [2] [])
  (.ret))
def impl_isAtom.m : Fn := { np := 1, body := impl_isAtom.b, res := [.tmp 2] }
def impl_isAtom.k (M : Nat → Option Body) : Prop := M 256 = some (.code impl_isAtom.m) ∧ M 290 = some (.ext (extG strings_ContainsRune.g))
end Mx

namespace Mx
open Go
variable {M : Nat → Option Body}
def irow (l : List Int) : List (List T) := l.map fun n => [I n]
theorem irow_len (l : List Int) : (irow l).length = l.length := by simp [irow]
theorem irow_at (l : List Int) (i : Nat) (h : i < (irow l).length) : (irow l)[i] = [I (l[i]'(by simpa [irow] using h))] := by simp [irow]
theorem irow_append (a b : List Int) : irow a ++ irow b = irow (a ++ b) := by simp [irow]
theorem irow_nil : irow [] = [] := rfl
theorem irow_take (l : List Int) (n : Nat) : (irow l).take n = irow (l.take n) := by simp [irow]
attribute [simp] irow_len irow_at irow_append irow_nil irow_take
/-- k, k+1, .. -/
def upto (k : Int) : Nat → List Int
  | 0 => []
  | n + 1 => upto k n ++ [k + n]
theorem upto_len (k : Int) (n : Nat) : (upto k n).length = n := by
  induction n with
  | zero => rfl
  | succ n ih => simp [upto, ih]
attribute [simp] upto_len
theorem irow_flat (l : List Int) : (irow l).all (fun r => r.all T.scalar) = true := by
  simp only [irow, List.all_map, List.all_eq_true]
  intro n _; rfl
attribute [simp] irow_flat
end Mx

namespace Mx
open Go
variable {P : Program} {F : Nat → FuncId}
/-- a table of codes and of contracts, at any arguments -/
def tabZ (tab : List (Nat × Fn)) (ext : List (Nat × (List V → List (Nat × Ob) → Option (V × List (Nat × Ob))))) (f : Nat) : Option Body := match get tab f with
  | some b => some (.code b)
  | none => (get ext f).map fun g => .ext g
theorem table_extz {tab : List (Nat × Fn)} {ext : List (Nat × (List V → List (Nat × Ob) → Option (V × List (Nat × Ob))))} (h : ∀ p ∈ tab, okFunc P F p.1 p.2 = true) (hx : ∀ p ∈ ext, ExtOk P F p.1 p.2) : TableOk P F (tabZ tab ext) := by
  intro f
  unfold tabZ
  cases hg : get tab f with
  | some b => exact h _ (get_mem hg)
  | none =>
    cases hq : get ext f with
    | none => simp
    | some g => exact hx _ (get_mem hq)
end Mx

namespace Mx
open Go
def spec_l01New.l0 : C := .seq (.seq (.reg [Qm 8 4, Qm 9 0, Q 10 (.len (.t 9)), Q 11 (.bin .lss (.t 8) (.t 10)), Qm 12 11, Qg 13 (.mv (.t 4)) 12 true, Qg 14 (.bin .lss (.t 13) (kI 4000)) 12 true,
    Q 15 (.pick (.t 12) (.t 14) (kB false))] [0,3,4,15] [])
  (.cond (.t 15) (.skip) (.exit 0)))
  (.seq (.block 1 (.reg [Qm 18 3, Q 19 (.bin .mul (.t 18) (kI 131)), Qm 20 0, Qm 21 4, Qa 22 1 20 21, Ql 23 22, Q 24 (.i2i .i64 (.t 23)), Q 25 (.bin .add (.t 19) (.t 24)), Q 26 (.bin .add (.t 25) (kI 7)),
    Q 27 (.bin .and (.t 26) (kI 1073741823)), Qm 3 27] [0,3,4] []))
  (.reg [Qm 16 4, Q 17 (.bin .add (.t 16) (kI 1)), Qm 4 17] [0,3,4] []))
def spec_l01New.b : C := .seq (.reg [Q 2 (.np)] [0] [])
  (.seq (.reg [Qm 5 0, Q 6 (.len (.t 5)), Q 7 (.bin .add (kI 77201) (.t 6)), Qm 3 7] [0,3] [])
  (.seq (.seq (.reg [Qi 4 0] [0,3,4] [])
  (.block 0 (.loop spec_l01New.l0)))
  (.seq (.reg [Qm 28 0, Qm 29 3, Q 30 (.build [.nils 1, .int .i64 0, .int .i64 0] [(0, 1, .t 28), (2, 1, .t 29)]), Qv 31 30, Qm 2 31] [2] [31])
  (.ret))))
def spec_l01New.m : Fn := { np := 1, body := spec_l01New.b, res := [.tmp 2] }
def spec_l01New.k (M : Nat → Option Body) : Prop := M 124 = some (.code spec_l01New.m)
def spec_l01Byte.b : C := .seq (.reg [Qi 2 0] [0] [0])
  (.seq (.reg [Qm 4 0, Qm 5 0, Q 6 (.nilc (.t 5)), Qf 7 2 6, Ql 8 7, Q 9 (.bin .mul (.t 8) (kI 6364136223846793005)), Q 10 (.bin .add (.t 9) (kI 1442695040888963407)), Q 11 (.nilc (.t 4)),
    Qf 12 2 11, Qs 1 12 10] [0] [0])
  (.seq (.regd [Qm 13 0, Q 14 (.nilc (.t 13)), Qf 15 2 14, Ql 16 15, Q 17 (.bin .shr (.t 16) (.k (.int .u64 33))), Qm 18 0, Q 19 (.nilc (.t 18)), Qf 20 2 19, Ql 21 20,
    Q 22 (.bin .shr (.t 21) (.k (.int .u64 45))), Q 23 (.bin .xor (.t 17) (.t 22)), Q 24 (.bin .and (.t 23) (kI 255)), Qm 3 24] [[], [0], [0,1], [0,1,2], lr 4, [], [5], [5,6], [5,6,7], [5,6,7,8], lr 10, lr 11, lr 12] [0,3] [0])
  (.seq (.seq (.regd [Qm 25 0, Q 26 (.nilc (.t 25)), Qf 27 1 26, Ql 28 27, Qm 29 0, Q 30 (.nilc (.t 29)), Qf 31 0 30, Ql 32 31, Q 33 (.len (.t 32)), Q 34 (.bin .lss (.t 28) (.t 33))] [[], [0], [0,1], [0,1,2], [], [4], [4,5], [4,5,6], [4,5,6,7], lr 9] [0,3,34] [0])
  (.cond (.t 34) (.seq (.regd [Qm 35 3, Qm 36 0, Q 37 (.nilc (.t 36)), Qf 38 0 37, Ql 39 38, Qm 40 0, Q 41 (.nilc (.t 40)), Qf 42 1 41, Ql 43 42, Qa 44 1 39 43, Ql 45 44, Q 46 (.i2i .i64 (.t 45)),
    Q 47 (.bin .add (.t 35) (.t 46)), Q 48 (.bin .and (.t 47) (kI 255)), Qm 3 48] [[], [], [1], [1,2], [1,2,3], [], [5], [5,6], [5,6,7], [1,2,3,4,5,6,7,8], [1,2,3,4,5,6,7,8,9], [1,2,3,4,5,6,7,8,9,10], lr 12, lr 13, lr 14] [0,3] [0])
  (.reg [Qm 49 0, Qm 50 0, Q 51 (.nilc (.t 50)), Qf 52 1 51, Ql 53 52, Q 54 (.bin .add (.t 53) (kI 1)), Q 55 (.nilc (.t 49)), Qf 56 1 55, Qs 1 56 54] [3] [0])) (.skip)))
  (.seq (.reg [Qm 57 3, Qm 2 57] [2] [0])
  (.ret)))))
def spec_l01Byte.m : Fn := { np := 1, body := spec_l01Byte.b, res := [.tmp 2] }
def spec_l01Byte.k (M : Nat → Option Body) : Prop := M 131 = some (.code spec_l01Byte.m)
def spec_l01Below.b : C := .seq (.reg [Qi 4 0] [0,1] [0])
  (.seq (.seq (.reg [Qm 9 1, Q 10 (.bin .leq (.t 9) (kI 0))] [0,1,10] [0])
  (.cond (.t 10) (.seq (.reg [Qi 4 0] [4] [0])
  (.ret)) (.skip)))
  (.seq (.seq (.reg [Qm 11 1, Q 12 (.bin .leq (.t 11) (kI 256))] [0,1,12] [0])
  (.cond (.t 12) (.seq (.reg [Qm 13 0, Q 14 (.call 131 [.t 13] [0] []), Qm 15 1, Q 16 (.bin .rem (.t 14) (.t 15)), Qm 4 16] [4] [0])
  (.ret)) (.skip)))
  (.seq (.reg [Qm 17 0, Q 18 (.call 131 [.t 17] [0] []), Qm 5 18] [0,1,5] [0])
  (.seq (.reg [Qm 19 0, Q 20 (.call 131 [.t 19] [0] []), Qm 6 20] [0,1,5,6] [0])
  (.seq (.reg [Qm 21 0, Q 22 (.call 131 [.t 21] [0] []), Qm 7 22] [0,1,5,6,7] [0])
  (.seq (.reg [Qm 23 0, Q 24 (.call 131 [.t 23] [0] []), Qm 8 24] [1,5,6,7,8] [0])
  (.seq (.reg [Qm 25 5, Q 26 (.bin .mul (.t 25) (kI 16777216)), Qm 27 6, Q 28 (.bin .mul (.t 27) (kI 65536)), Q 29 (.bin .add (.t 26) (.t 28)), Qm 30 7, Q 31 (.bin .mul (.t 30) (kI 256)),
    Q 32 (.bin .add (.t 29) (.t 31)), Qm 33 8, Q 34 (.bin .add (.t 32) (.t 33)), Qm 35 1, Q 36 (.bin .rem (.t 34) (.t 35)), Qm 4 36] [4] [0])
  (.ret))))))))
def spec_l01Below.m : Fn := { np := 2, body := spec_l01Below.b, res := [.tmp 4] }
def spec_l01Below.k (M : Nat → Option Body) : Prop := M 125 = some (.code spec_l01Below.m) ∧ spec_l01Byte.k M
def spec_l01Pick.b : C := .seq (.reg [Q 4 (.mv (.k (.str ⟨#[]⟩)))] [0,1] [0])
  (.seq (.reg [Qm 5 1, Qm 6 0, Qm 7 1, Q 8 (.len (.t 7)), Q 9 (.call 125 [.t 6, .t 8] [0] []), Qa 10 1 5 9, Ql 11 10, Qm 4 11] [4] [0])
  (.ret))
def spec_l01Pick.m : Fn := { np := 2, body := spec_l01Pick.b, res := [.tmp 4] }
def spec_l01Pick.k (M : Nat → Option Body) : Prop := M 185 = some (.code spec_l01Pick.m) ∧ spec_l01Below.k M
def spec_DrawPlaces.l0 : C := .seq (.seq (.reg [Qm 11 5, Q 12 (.bin .lss (.t 11) (kI 12))] [3,4,5,12] [10,19,10700])
  (.cond (.t 12) (.skip) (.exit 0)))
  (.seq (.block 1 (.reg [Qm 15 4, Qm 16 3, Q 17 (.call 125 [.t 16, kI 10000] [0] []), Q 18 (.bslice 1 1 [.int .i64 0] [(0, .t 17)]), Q 19 (.app 1 8 (.t 15) (.t 18)), Qm 4 19] [3,4,5] [10,19,10700]))
  (.reg [Qm 13 5, Q 14 (.bin .add (.t 13) (kI 1)), Qm 5 14] [3,4,5] [10,19,10700]))
def spec_DrawPlaces.b : C := .seq (.reg [Q 2 (.nil 1)] [0] [])
  (.seq (.reg [Qm 6 0, Q 7 (.call 124 [.t 6] [] [(0, 10700)]), Qm 3 7] [3] [10700])
  (.seq (.reg [Qm 8 3, Q 9 (.call 131 [.t 8] [0] [])] [3] [10700])
  (.seq (.reg [Q 10 (.bslice 1 0 [.int .i64 0] []), Qm 4 10] [3,4] [10,19,10700])
  (.seq (.seq (.reg [Qi 5 0] [3,4,5] [10,19,10700])
  (.block 0 (.loop spec_DrawPlaces.l0)))
  (.seq (.reg [Qm 20 4, Qm 2 20] [2] [2,10,19])
  (.ret))))))
def spec_DrawPlaces.m : Fn := { np := 1, body := spec_DrawPlaces.b, res := [.tmp 2] }
def spec_DrawPlaces.k (M : Nat → Option Body) : Prop := M 40 = some (.code spec_DrawPlaces.m) ∧ spec_l01New.k M ∧ spec_l01Below.k M ∧ spec_l01Byte.k M
end Mx

namespace Mx
open Go
def laws_big.b : C := .seq (.reg [Qb 2 false] [0] [])
  (.seq (.reg [Qm 3 0, Q 4 (.len (.t 3)), Q 5 (.bin .gtr (.t 4) (kI 1048576)), Qm 2 5] [2] [])
  (.ret))
def laws_big.m : Fn := { np := 1, body := laws_big.b, res := [.tmp 2] }
def laws_big.k (M : Nat → Option Body) : Prop := M 36 = some (.code laws_big.m)
end Mx

namespace Mx
open Go
def spec_l01Once.b : C := .seq (.reg [Qb 4 false] [0,1] [0])
  (.seq (.reg [Qm 5 0, Qm 6 1, Q 7 (.call 125 [.t 5, .t 6] [0] []), Q 8 (.bin .eql (.t 7) (kI 0)), Qm 4 8] [4] [0])
  (.ret))
def spec_l01Once.m : Fn := { np := 2, body := spec_l01Once.b, res := [.tmp 4] }
def spec_l01Once.k (M : Nat → Option Body) : Prop := M 175 = some (.code spec_l01Once.m) ∧ spec_l01Below.k M
def spec_l01Long.l0 : C := .seq (.seq (.reg [Qm 9 6, Qm 10 0, Q 11 (.bin .lss (.t 9) (.t 10))] [0,1,5,6,11] [8])
  (.cond (.t 11) (.skip) (.exit 0)))
  (.seq (.block 1 (.reg [Qm 14 5, Qm 15 6, Qm 16 1, Qa 17 1 14 15, Qs 1 17 16] [0,1,5,6] [8]))
  (.reg [Qm 12 6, Q 13 (.bin .add (.t 12) (kI 1)), Qm 6 13] [0,1,5,6] [8]))
def spec_l01Long.b : C := .seq (.reg [Q 4 (.mv (.k (.str ⟨#[]⟩)))] [0,1] [])
  (.seq (.reg [Qm 7 0, Q 8 (.mks 1 1 [.int .u8 0] (.t 7)), Qm 5 8] [0,1,5] [8])
  (.seq (.seq (.reg [Qi 6 0] [0,1,5,6] [8])
  (.block 0 (.loop spec_l01Long.l0)))
  (.seq (.reg [Qm 18 5, Q 19 (.b2s (.t 18)), Qm 4 19] [4] [])
  (.ret))))
def spec_l01Long.m : Fn := { np := 2, body := spec_l01Long.b, res := [.tmp 4] }
def spec_l01Long.k (M : Nat → Option Body) : Prop := M 176 = some (.code spec_l01Long.m)
end Mx

namespace Mx
open Go
def cutV (s sep : ByteArray) : V := .tup [.c (.str ⟨(Lib.cut s.data.toList sep.data.toList).1.toArray⟩), .c (.str ⟨(Lib.cut s.data.toList sep.data.toList).2.1.toArray⟩), .c (.bool (Lib.cut s.data.toList sep.data.toList).2.2)]
/-- strings.Cut -/
def cutG : List V → List (Nat × Ob) → Option (V × List (Nat × Ob))
  | [.c (.str s), .c (.str sep)], [] => if s.size < 4294967281 then some (cutV s sep, []) else none
  | _, _ => none
end Mx

namespace Mx
open Go
def internal_stringslite_HasPrefix.b : C := .seq (.reg [Qb 4 false] [0,1] [])
  (.seq (.reg [Qm 5 0, Q 6 (.slen (.t 5)), Qm 7 1, Q 8 (.slen (.t 7)), Q 9 (.bin .geq (.t 6) (.t 8)), Qm 10 9, Qg 11 (.mv (.t 0)) 10 true, Qg 12 (.mv (.t 1)) 10 true,
    Qg 13 (.slen (.t 12)) 10 true, Qg 14 (.sstr (.t 11) none (some (.t 13))) 10 true, Qg 15 (.mv (.t 1)) 10 true, Qg 16 (.bin .eql (.t 14) (.t 15)) 10 true,
    Q 17 (.pick (.t 10) (.t 16) (kB false)), Qm 4 17] [4] [])
  (.ret))
def internal_stringslite_HasPrefix.m : Fn := { np := 2, body := internal_stringslite_HasPrefix.b, res := [.tmp 4] }
def internal_stringslite_HasPrefix.k (M : Nat → Option Body) : Prop := M 257 = some (.code internal_stringslite_HasPrefix.m)
def strings_HasPrefix.b : C := .seq (.reg [Qb 4 false] [0,1] [])
  (.seq (.reg [Qm 5 0, Qm 6 1, Q 7 (.call 257 [.t 5, .t 6] [] []), Qm 4 7] [4] [])
  (.ret))
def strings_HasPrefix.m : Fn := { np := 2, body := strings_HasPrefix.b, res := [.tmp 4] }
def strings_HasPrefix.k (M : Nat → Option Body) : Prop := M 215 = some (.code strings_HasPrefix.m) ∧ internal_stringslite_HasPrefix.k M
def impl_quoted.l0 : C := .seq (.seq (.reg [Qm 9 6, Qm 10 0, Q 11 (.slen (.t 10)), Q 12 (.bin .lss (.t 9) (.t 11))] [0,2,5,6,12] [2,8,74])
  (.cond (.t 12) (.skip) (.exit 0)))
  (.seq (.block 1 (.seq (.reg [Qm 15 0, Qm 16 6, Q 17 (.idx (.t 15) (.t 16)), Qm 7 17] [0,2,5,6,7] [2,8,74])
  (.seq (.block 2 (.seq (.reg [Qm 19 7, Q 20 (.bin .eql (.t 19) (.k (.int .u8 34))), Qm 18 20] [0,2,5,6,7,18] [2,8,74])
  (.cond (.t 18) (.seq (.reg [Qm 21 5, Q 22 (.b2s (.t 21)), Q 23 (.build [.int .i64 0, .str ⟨#[]⟩] [(0, 1, kI 2), (1, 1, .t 22)]), Qm 24 6, Q 25 (.bin .add (.t 24) (kI 1)), Qs 2 2 23, Qm 3 25, Qi 4 0] [2,3,4] [2])
  (.ret)) (.seq (.reg [Qm 27 7, Q 28 (.bin .eql (.t 27) (.k (.int .u8 92))), Qm 29 28, Qg 30 (.mv (.t 6)) 29 true, Qg 31 (.bin .add (.t 30) (kI 1)) 29 true, Qg 32 (.mv (.t 0)) 29 true,
    Qg 33 (.slen (.t 32)) 29 true, Qg 34 (.bin .eql (.t 31) (.t 33)) 29 true, Q 35 (.pick (.t 29) (.t 34) (kB false)), Qm 26 35] [0,2,5,6,7,26] [2,8,74])
  (.cond (.t 26) (.seq (.reg [Q 36 (.build [.int .i64 0, .str ⟨#[]⟩] []), Qs 2 2 36, Qi 3 0, Qi 4 1] [2,3,4] [2])
  (.ret)) (.seq (.reg [Qm 38 7, Q 39 (.bin .eql (.t 38) (.k (.int .u8 92))), Qm 40 39, Qg 41 (.mv (.t 0)) 40 true, Qg 42 (.mv (.t 6)) 40 true, Qg 43 (.bin .add (.t 42) (kI 1)) 40 true,
    Qg 44 (.idx (.t 41) (.t 43)) 40 true, Qg 45 (.bin .neq (.t 44) (.k (.int .u8 34))) 40 true, Q 46 (.pick (.t 40) (.t 45) (kB false)), Qm 47 46, Qg 48 (.mv (.t 0)) 47 true,
    Qg 49 (.mv (.t 6)) 47 true, Qg 50 (.bin .add (.t 49) (kI 1)) 47 true, Qg 51 (.idx (.t 48) (.t 50)) 47 true, Qg 52 (.bin .neq (.t 51) (.k (.int .u8 92))) 47 true,
    Q 53 (.pick (.t 47) (.t 52) (kB false)), Qm 54 53, Qg 55 (.mv (.t 7)) 54 false, Qg 56 (.bin .lss (.t 55) (.k (.int .u8 32))) 54 false, Q 57 (.pick (.t 54) (kB true) (.t 56)),
    Qm 58 57, Qg 59 (.mv (.t 7)) 58 false, Qg 60 (.bin .gtr (.t 59) (.k (.int .u8 126))) 58 false, Q 61 (.pick (.t 58) (kB true) (.t 60)), Qm 37 61] [0,2,5,6,7,37] [2,8,74])
  (.cond (.t 37) (.seq (.reg [Q 62 (.build [.int .i64 0, .str ⟨#[]⟩] []), Qs 2 2 62, Qi 3 0, Qi 4 2] [2,3,4] [2])
  (.ret)) (.seq (.reg [Qm 64 7, Q 65 (.bin .eql (.t 64) (.k (.int .u8 92))), Qm 63 65] [0,2,5,6,7,63] [2,8,74])
  (.cond (.t 63) (.seq (.reg [Qm 66 6, Q 67 (.bin .add (.t 66) (kI 1)), Qm 6 67] [0,2,5,6] [2,8,74])
  (.reg [Qm 68 0, Qm 69 6, Q 70 (.idx (.t 68) (.t 69)), Qm 7 70] [0,2,5,6,7] [2,8,74])) (.skip))))))))))
  (.seq (.reg [Qm 71 5, Qm 72 7, Q 73 (.bslice 1 1 [.int .u8 0] [(0, .t 72)]), Q 74 (.app 1 1 (.t 71) (.t 73)), Qm 5 74] [0,2,5,6] [2,8,74])
  (.seq (.reg [Qm 75 5, Q 76 (.len (.t 75)), Q 77 (.bin .gtr (.t 76) (kI 60))] [0,2,5,6,77] [2,8,74])
  (.cond (.t 77) (.seq (.reg [Q 78 (.build [.int .i64 0, .str ⟨#[]⟩] []), Qs 2 2 78, Qi 3 0, Qi 4 2] [2,3,4] [2])
  (.ret)) (.skip)))))))
  (.reg [Qm 13 6, Q 14 (.bin .add (.t 13) (kI 1)), Qm 6 14] [0,2,5,6] [2,8,74]))
def impl_quoted.b : C := .seq (.reg [Q 2 (.alloc [.int .i64 0, .str ⟨#[]⟩]), Qi 3 0, Qi 4 0] [0,2] [2])
  (.seq (.reg [Q 8 (.bslice 1 0 [.int .u8 0] []), Qm 5 8] [0,2,5] [2,8,74])
  (.seq (.seq (.reg [Qi 6 1] [0,2,5,6] [2,8,74])
  (.block 0 (.loop impl_quoted.l0)))
  (.seq (.reg [Q 79 (.build [.int .i64 0, .str ⟨#[]⟩] []), Qs 2 2 79, Qi 3 0, Qi 4 1] [2,3,4] [2])
  (.ret))))
def impl_quoted.m : Fn := { np := 1, body := impl_quoted.b, res := [.cell 2 true 2, .tmp 3, .tmp 4] }
def impl_quoted.k (M : Nat → Option Body) : Prop := M 254 = some (.code impl_quoted.m)
def impl_counted.l0 : C := .seq (.seq (.reg [Qm 10 6, Qm 11 0, Q 12 (.slen (.t 11)), Q 13 (.bin .lss (.t 10) (.t 12)), Qm 14 13, Qg 15 (.mv (.t 6)) 14 true, Qg 16 (.bin .lss (.t 15) (kI 3)) 14 true,
    Q 17 (.pick (.t 14) (.t 16) (kB false)), Qm 18 17, Qg 19 (.mv (.t 0)) 18 true, Qg 20 (.mv (.t 6)) 18 true, Qg 21 (.idx (.t 19) (.t 20)) 18 true,
    Qg 22 (.bin .geq (.t 21) (.k (.int .u8 48))) 18 true, Q 23 (.pick (.t 18) (.t 22) (kB false)), Qm 24 23, Qg 25 (.mv (.t 0)) 24 true, Qg 26 (.mv (.t 6)) 24 true,
    Qg 27 (.idx (.t 25) (.t 26)) 24 true, Qg 28 (.bin .leq (.t 27) (.k (.int .u8 57))) 24 true, Q 29 (.pick (.t 24) (.t 28) (kB false))] [0,2,5,6,29] [2])
  (.cond (.t 29) (.skip) (.exit 0)))
  (.block 1 (.seq (.reg [Qm 30 5, Q 31 (.bin .mul (kI 10) (.t 30)), Qm 32 0, Qm 33 6, Q 34 (.idx (.t 32) (.t 33)), Q 35 (.bin .sub (.t 34) (.k (.int .u8 48))), Q 36 (.i2i .i64 (.t 35)),
    Q 37 (.bin .add (.t 31) (.t 36)), Qm 5 37] [0,2,5,6] [2])
  (.reg [Qm 38 6, Q 39 (.bin .add (.t 38) (kI 1)), Qm 6 39] [0,2,5,6] [2])))
def impl_counted.b : C := .seq (.reg [Q 2 (.alloc [.int .i64 0, .str ⟨#[]⟩]), Qi 3 0, Qi 4 0] [0,2] [2])
  (.seq (.reg [Qi 5 0, Qi 6 1] [0,2,5,6] [2])
  (.seq (.block 0 (.loop impl_counted.l0))
  (.seq (.reg [Q 7 (.mv (.k (.str ⟨#[125,13,10]⟩)))] [0,2,5,6,7] [2])
  (.seq (.reg [Qm 40 0, Qm 41 6, Q 42 (.sstr (.t 40) (some (.t 41)) none), Qm 8 42] [0,2,5,6,7,8] [2])
  (.seq (.block 2 (.seq (.reg [Qm 44 8, Q 45 (.bin .eql (.t 44) (.k (.str ⟨#[]⟩))), Qm 46 45, Qg 47 (.mv (.t 6)) 46 true, Qg 48 (.bin .lss (.t 47) (kI 4)) 46 true, Q 49 (.pick (.t 46) (.t 48) (kB false)),
    Qm 50 49, Qg 51 (.mv (.t 5)) 50 true, Qg 52 (.bin .leq (.t 51) (kI 60)) 50 true, Q 53 (.pick (.t 50) (.t 52) (kB false)), Qm 43 53] [0,2,5,6,7,8,43] [2])
  (.cond (.t 43) (.seq (.reg [Q 54 (.build [.int .i64 0, .str ⟨#[]⟩] []), Qs 2 2 54, Qi 3 0, Qi 4 1] [2,3,4] [2])
  (.ret)) (.seq (.reg [Qm 56 6, Q 57 (.bin .eql (.t 56) (kI 1)), Qm 58 57, Qg 59 (.mv (.t 5)) 58 false, Qg 60 (.bin .gtr (.t 59) (kI 60)) 58 false, Q 61 (.pick (.t 58) (kB true) (.t 60)), Qm 55 61] [0,2,5,6,7,8,55] [2])
  (.cond (.t 55) (.seq (.reg [Q 62 (.build [.int .i64 0, .str ⟨#[]⟩] []), Qs 2 2 62, Qi 3 0, Qi 4 2] [2,3,4] [2])
  (.ret)) (.seq (.reg [Qm 64 8, Q 65 (.slen (.t 64)), Qm 66 7, Q 67 (.slen (.t 66)), Q 68 (.bin .lss (.t 65) (.t 67)), Qm 69 68, Qg 70 (.mv (.t 7)) 69 true, Qg 71 (.mv (.t 8)) 69 true,
    Qg 72 (.call 215 [.t 70, .t 71] [] []) 69 true, Q 73 (.pick (.t 69) (.t 72) (kB false)), Qm 63 73] [0,2,5,6,7,8,63] [2])
  (.cond (.t 63) (.seq (.reg [Q 74 (.build [.int .i64 0, .str ⟨#[]⟩] []), Qs 2 2 74, Qi 3 0, Qi 4 1] [2,3,4] [2])
  (.ret)) (.seq (.reg [Qm 76 8, Qm 77 7, Q 78 (.call 215 [.t 76, .t 77] [] []), Q 79 (.not (.t 78)), Qm 75 79] [0,2,5,6,7,8,75] [2])
  (.cond (.t 75) (.seq (.reg [Q 80 (.build [.int .i64 0, .str ⟨#[]⟩] []), Qs 2 2 80, Qi 3 0, Qi 4 2] [2,3,4] [2])
  (.ret)) (.seq (.reg [Qm 82 8, Q 83 (.slen (.t 82)), Qm 84 7, Q 85 (.slen (.t 84)), Qm 86 5, Q 87 (.bin .add (.t 85) (.t 86)), Q 88 (.bin .lss (.t 83) (.t 87)), Qm 81 88] [0,2,5,6,7,81] [2])
  (.cond (.t 81) (.seq (.reg [Q 89 (.build [.int .i64 0, .str ⟨#[]⟩] []), Qs 2 2 89, Qi 3 0, Qi 4 1] [2,3,4] [2])
  (.ret)) (.skip))))))))))))
  (.seq (.reg [Qm 90 6, Qm 91 7, Q 92 (.slen (.t 91)), Q 93 (.bin .add (.t 90) (.t 92)), Qm 9 93] [0,2,5,9] [2])
  (.seq (.reg [Qm 94 0, Qm 95 9, Qm 96 9, Qm 97 5, Q 98 (.bin .add (.t 96) (.t 97)), Q 99 (.sstr (.t 94) (some (.t 95)) (some (.t 98))),
    Q 100 (.build [.int .i64 0, .str ⟨#[]⟩] [(0, 1, kI 2), (1, 1, .t 99)]), Qm 101 9, Qm 102 5, Q 103 (.bin .add (.t 101) (.t 102)), Qs 2 2 100, Qm 3 103, Qi 4 0] [2,3,4] [2])
  (.ret))))))))
def impl_counted.m : Fn := { np := 1, body := impl_counted.b, res := [.cell 2 true 2, .tmp 3, .tmp 4] }
def impl_counted.k (M : Nat → Option Body) : Prop := M 255 = some (.code impl_counted.m) ∧ strings_HasPrefix.k M
def impl_tokenAt.l0 : C := .seq (.seq (.reg [Qm 22 5, Qm 23 0, Q 24 (.slen (.t 23)), Q 25 (.bin .lss (.t 22) (.t 24)), Qm 26 25, Qg 27 (.mv (.t 0)) 26 true, Qg 28 (.mv (.t 5)) 26 true, Qg 29 (.idx (.t 27) (.t 28)) 26 true,
    Qg 30 (.call 256 [.t 29] [] []) 26 true, Q 31 (.pick (.t 26) (.t 30) (kB false))] [0,2,5,31] [2])
  (.cond (.t 31) (.skip) (.exit 1)))
  (.block 2 (.reg [Qm 32 5, Q 33 (.bin .add (.t 32) (kI 1)), Qm 5 33] [0,2,5] [2]))
def impl_tokenAt.b : C := .seq (.reg [Q 2 (.alloc [.int .i64 0, .str ⟨#[]⟩]), Qi 3 0, Qi 4 0] [0,2] [2])
  (.seq (.seq (.reg [Qm 6 0, Q 7 (.idx (.t 6) (kI 0))] [0,2,7] [2])
  (.block 0 (.seq (.reg [Q 9 (.bin .eql (.t 7) (.k (.int .u8 34))), Qm 8 9] [0,2,7,8] [2])
  (.cond (.t 8) (.seq (.reg [Qm 10 0, Q 11 (.call 254 [.t 10] [] []), Qx 12 0 11, Qx 13 1 11, Qx 14 2 11, Qs 2 2 12, Qm 3 13, Qm 4 14] [2,3,4] [2])
  (.ret)) (.seq (.reg [Q 16 (.bin .eql (.t 7) (.k (.int .u8 123))), Qm 15 16] [0,2,15] [2])
  (.cond (.t 15) (.seq (.reg [Qm 17 0, Q 18 (.call 255 [.t 17] [] []), Qx 19 0 18, Qx 20 1 18, Qx 21 2 18, Qs 2 2 19, Qm 3 20, Qm 4 21] [2,3,4] [2])
  (.ret)) (.skip)))))))
  (.seq (.reg [Qi 5 0] [0,2,5] [2])
  (.seq (.block 1 (.loop impl_tokenAt.l0))
  (.seq (.block 3 (.seq (.reg [Qm 35 5, Q 36 (.call 101 [.t 35, kI 1, kI 40] [] []), Q 37 (.not (.t 36)), Qm 34 37] [0,2,5,34] [2])
  (.cond (.t 34) (.seq (.reg [Q 38 (.build [.int .i64 0, .str ⟨#[]⟩] []), Qs 2 2 38, Qi 3 0, Qi 4 2] [2,3,4] [2])
  (.ret)) (.seq (.reg [Qm 40 5, Qm 41 0, Q 42 (.slen (.t 41)), Q 43 (.bin .eql (.t 40) (.t 42)), Qm 39 43] [0,2,5,39] [2])
  (.cond (.t 39) (.seq (.reg [Q 44 (.build [.int .i64 0, .str ⟨#[]⟩] []), Qs 2 2 44, Qi 3 0, Qi 4 1] [2,3,4] [2])
  (.ret)) (.skip))))))
  (.seq (.reg [Qm 45 0, Qm 46 5, Q 47 (.sstr (.t 45) none (some (.t 46))), Q 48 (.build [.int .i64 0, .str ⟨#[]⟩] [(0, 1, kI 1), (1, 1, .t 47)]), Qm 49 5, Qs 2 2 48, Qm 3 49, Qi 4 0] [2,3,4] [2])
  (.ret))))))
def impl_tokenAt.m : Fn := { np := 1, body := impl_tokenAt.b, res := [.cell 2 true 2, .tmp 3, .tmp 4] }
def impl_tokenAt.k (M : Nat → Option Body) : Prop := M 214 = some (.code impl_tokenAt.m) ∧ impl_within.k M ∧ impl_quoted.k M ∧ impl_counted.k M ∧ impl_isAtom.k M
def impl_said.l0 : C := .block 1 (.seq (.seq (.reg [Qm 12 6, Qm 13 0, Q 14 (.slen (.t 13)), Q 15 (.bin .eql (.t 12) (.t 14))] [0,5,6,15] [11,30])
  (.cond (.t 15) (.seq (.reg [Q 2 (.nil 2), Qi 3 0, Qi 4 1] [2,3,4] [2,11,30])
  (.ret)) (.skip)))
  (.seq (.reg [Qm 17 0, Qm 18 6, Q 19 (.sstr (.t 17) (some (.t 18)) none), Q 20 (.call 214 [.t 19] [] []), Qm 16 20, Qx 21 0 16, Qx 22 1 16, Qx 23 2 16, Q 7 (.alloc [.int .i64 0, .str ⟨#[]⟩]),
    Qs 2 7 21, Qm 8 22, Qm 9 23] [0,5,6,7,8,9] [7,11,30])
  (.seq (.seq (.reg [Qm 24 9, Q 25 (.bin .neq (.t 24) (kI 0))] [0,5,6,7,8,9,25] [7,11,30])
  (.cond (.t 25) (.seq (.reg [Qm 26 9, Q 2 (.nil 2), Qi 3 0, Qm 4 26] [2,3,4] [2,11,30])
  (.ret)) (.skip)))
  (.seq (.reg [Qm 27 5, QL 28 2 7, Q 29 (.bslice 2 1 [.int .i64 0, .str ⟨#[]⟩] [(0, .t 28)]), Q 30 (.app 2 24 (.t 27) (.t 29)), Qm 5 30] [0,5,6,8] [11,30])
  (.seq (.reg [Qm 31 6, Qm 32 8, Q 33 (.bin .add (.t 31) (.t 32)), Qm 6 33] [0,5,6] [11,30])
  (.seq (.reg [Qm 34 0, Qm 35 6, Q 36 (.sstr (.t 34) (some (.t 35)) none), Qm 10 36] [0,5,6,10] [11,30])
  (.seq (.block 2 (.seq (.reg [Qm 38 10, Q 39 (.bin .eql (.t 38) (.k (.str ⟨#[]⟩))), Qm 40 39, Qg 41 (.mv (.t 10)) 40 false, Qg 42 (.bin .eql (.t 41) (.k (.str ⟨#[13]⟩))) 40 false,
    Q 43 (.pick (.t 40) (kB true) (.t 42)), Qm 37 43] [0,5,6,10,37] [11,30])
  (.cond (.t 37) (.seq (.reg [Q 2 (.nil 2), Qi 3 0, Qi 4 1] [2,3,4] [2,11,30])
  (.ret)) (.seq (.reg [Qm 45 10, Q 46 (.call 215 [.t 45, .k (.str ⟨#[13,10]⟩)] [] []), Qm 44 46] [0,5,6,10,44] [11,30])
  (.cond (.t 44) (.seq (.reg [Qm 47 5, Qm 48 6, Q 49 (.bin .add (.t 48) (kI 2)), Qm 2 47, Qm 3 49, Qi 4 0] [2,3,4] [2,11,30])
  (.ret)) (.seq (.reg [Qm 51 10, Q 52 (.idx (.t 51) (kI 0)), Q 53 (.bin .neq (.t 52) (.k (.int .u8 32))), Qm 54 53, Qg 55 (.mv (.t 5)) 54 false, Qg 56 (.len (.t 55)) 54 false,
    Qg 57 (.bin .eql (.t 56) (kI 8)) 54 false, Q 58 (.pick (.t 54) (kB true) (.t 57)), Qm 50 58] [0,5,6,50] [11,30])
  (.cond (.t 50) (.seq (.reg [Q 2 (.nil 2), Qi 3 0, Qi 4 2] [2,3,4] [2,11,30])
  (.ret)) (.skip))))))))
  (.reg [Qm 59 6, Q 60 (.bin .add (.t 59) (kI 1)), Qm 6 60] [0,5,6] [11,30]))))))))
def impl_said.b : C := .seq (.reg [Q 2 (.nil 2), Qi 3 0, Qi 4 0] [0] [])
  (.seq (.reg [Q 11 (.bslice 2 0 [.int .i64 0, .str ⟨#[]⟩] []), Qm 5 11] [0,5] [11,30])
  (.seq (.reg [Qi 6 0] [0,5,6] [11,30])
  (.block 0 (.loop impl_said.l0))))
def impl_said.m : Fn := { np := 1, body := impl_said.b, res := [.tmp 2, .tmp 3, .tmp 4] }
def impl_said.k (M : Nat → Option Body) : Prop := M 129 = some (.code impl_said.m) ∧ impl_tokenAt.k M ∧ strings_HasPrefix.k M
def impl_ReadTokens.b : C := .seq (.reg [Q 2 (.nil 2), Q 3 (.mv (.k (.str ⟨#[]⟩))), Qi 4 0] [0] [])
  (.seq (.reg [Qm 12 0, Q 13 (.call 129 [.t 12] [] [(0, 11300)]), Qm 11 13, Qx 14 0 11, Qx 15 1 11, Qx 16 2 11, Qm 5 14, Qm 6 15, Qm 7 16] [0,5,6,7] [11300])
  (.seq (.block 0 (.seq (.reg [Qm 18 7, Q 19 (.bin .eql (.t 18) (kI 0)), Qm 20 19, Qg 21 (.mv (.t 6)) 20 true, Qg 22 (.bin .leq (.t 21) (kI 200)) 20 true, Q 23 (.pick (.t 20) (.t 22) (kB false)), Qm 17 23] [0,5,6,7,17] [11300])
  (.cond (.t 17) (.seq (.regd [Qm 24 5, Qm 25 0, Qm 26 6, Q 27 (.sstr (.t 25) (some (.t 26)) none), Qm 2 24, Qm 3 27, Qi 4 0] [[], [], [], [1,2], [0], lr 5, lr 6] [2,3,4] [2,36,44,11300])
  (.ret)) (.seq (.reg [Qm 29 7, Q 30 (.bin .eql (.t 29) (kI 1)), Qm 31 30, Qg 32 (.mv (.t 0)) 31 true, Qg 33 (.slen (.t 32)) 31 true, Qg 34 (.bin .leq (.t 33) (kI 200)) 31 true,
    Q 35 (.pick (.t 31) (.t 34) (kB false)), Qm 28 35] [0,28] [])
  (.cond (.t 28) (.seq (.reg [Q 36 (.bslice 2 0 [.int .i64 0, .str ⟨#[]⟩] []), Qm 37 0, Qm 2 36, Qm 3 37, Qi 4 1] [2,3,4] [2,36,44,11300])
  (.ret)) (.skip))))))
  (.seq (.reg [Qm 39 0, Q 40 (.call 130 [.t 39, .k (.str ⟨#[13,10]⟩)] [] []), Qm 38 40, Qx 41 0 38, Qx 42 1 38, Qx 43 2 38, Qm 8 41, Qm 9 42, Qm 10 43] [9] [])
  (.seq (.reg [Q 44 (.bslice 2 0 [.int .i64 0, .str ⟨#[]⟩] []), Qm 45 9, Qm 2 44, Qm 3 45, Qi 4 2] [2,3,4] [2,36,44,11300])
  (.ret)))))
def impl_ReadTokens.m : Fn := { np := 1, body := impl_ReadTokens.b, res := [.tmp 2, .tmp 3, .tmp 4] }
def impl_ReadTokens.k (M : Nat → Option Body) : Prop := M 39 = some (.code impl_ReadTokens.m) ∧ impl_said.k M ∧ M 130 = some (.ext cutG)
def spec_l13Token.b : C := .seq (.reg [Q 2 (.alloc [.int .i64 0, .str ⟨#[]⟩])] [0,2] [0,2])
  (.seq (.seq (.reg [Qm 3 0, Q 4 (.call 175 [.t 3, kI 2] [0] [])] [0,2,4] [0,2])
  (.cond (.t 4) (.seq (.reg [Qm 5 0,
    Q 6 (.bslf 1 6 [.str ⟨#[]⟩] [(0, .k (.str ⟨#[97,49]⟩)), (1, .k (.str ⟨#[76,79,71,73,78]⟩)), (2, .k (.str ⟨#[78,79,79,80]⟩)), (3, .k (.str ⟨#[120]⟩)), (4, .k (.str ⟨#[49,58,51,44,42]⟩)), (5, .k (.str ⟨#[33,126]⟩))]),
    Q 7 (.call 185 [.t 5, .t 6] [0] []), Q 8 (.build [.int .i64 0, .str ⟨#[]⟩] [(0, 1, kI 1), (1, 1, .t 7)]), Qs 2 2 8] [2] [0,2])
  (.ret)) (.skip)))
  (.seq (.reg [Qm 9 0, Q 10 (.call 176 [kI 60, .k (.int .u8 97)] [] []),
    Q 11 (.bslf 1 8 [.str ⟨#[]⟩] [(0, .k (.str ⟨#[]⟩)), (1, .k (.str ⟨#[97,110,110]⟩)), (2, .k (.str ⟨#[97,32,98]⟩)), (3, .k (.str ⟨#[113,34,113]⟩)), (4, .k (.str ⟨#[98,92,115]⟩)), (5, .k (.str ⟨#[108,105,110,101,13,10,101,110,100]⟩)), (6, .k (.str ⟨#[0,255]⟩)), (7, .t 10)]),
    Q 12 (.call 185 [.t 9, .t 11] [0] []), Q 13 (.build [.int .i64 0, .str ⟨#[]⟩] [(0, 1, kI 2), (1, 1, .t 12)]), Qs 2 2 13] [2] [0,2])
  (.ret)))
def spec_l13Token.m : Fn := { np := 1, body := spec_l13Token.b, res := [.cell 2 true 2] }
def spec_l13Token.k (M : Nat → Option Body) : Prop := M 126 = some (.code spec_l13Token.m) ∧ spec_l01Once.k M ∧ spec_l01Long.k M ∧ spec_l01Pick.k M
def spec_DrawTokens.l0 : C := .seq (.seq (.reg [Qm 9 5, Qm 10 3, Q 11 (.call 125 [.t 10, kI 4] [0] []), Q 12 (.bin .add (kI 1) (.t 11)), Q 13 (.bin .lss (.t 9) (.t 12))] [3,4,5,13] [8,20,10700])
  (.cond (.t 13) (.skip) (.exit 0)))
  (.seq (.block 1 (.reg [Qm 16 4, Qm 17 3, Q 18 (.call 126 [.t 17] [0] []), Q 19 (.bslice 2 1 [.int .i64 0, .str ⟨#[]⟩] [(0, .t 18)]), Q 20 (.app 2 24 (.t 16) (.t 19)), Qm 4 20] [3,4,5] [8,20,10700]))
  (.reg [Qm 14 5, Q 15 (.bin .add (.t 14) (kI 1)), Qm 5 15] [3,4,5] [8,20,10700]))
def spec_DrawTokens.b : C := .seq (.reg [Q 2 (.nil 2)] [0] [])
  (.seq (.reg [Qm 6 0, Q 7 (.call 124 [.t 6] [] [(0, 10700)]), Qm 3 7] [3] [10700])
  (.seq (.reg [Q 8 (.bslice 2 0 [.int .i64 0, .str ⟨#[]⟩] []), Qm 4 8] [3,4] [8,20,10700])
  (.seq (.seq (.reg [Qi 5 0] [3,4,5] [8,20,10700])
  (.block 0 (.loop spec_DrawTokens.l0)))
  (.seq (.reg [Qm 21 4, Qm 2 21] [2] [2,8,20])
  (.ret)))))
def spec_DrawTokens.m : Fn := { np := 1, body := spec_DrawTokens.b, res := [.tmp 2] }
def spec_DrawTokens.k (M : Nat → Option Body) : Prop := M 37 = some (.code spec_DrawTokens.m) ∧ spec_l01New.k M ∧ spec_l01Below.k M ∧ spec_l13Token.k M
def laws_sameTokens.l0 : C := .seq (.seq (.reg [Qm 11 5, Qm 12 0, Q 13 (.len (.t 12)), Q 14 (.bin .lss (.t 11) (.t 13))] [0,1,5,14] [])
  (.cond (.t 14) (.skip) (.exit 0)))
  (.seq (.block 1 (.seq (.regd [Qm 17 0, Qm 18 5, Qa 19 2 17 18, QL 20 2 19, Qm 21 1, Qm 22 5, Qa 23 2 21 22, QL 24 2 23, Q 25 (.eqs true [.int, .str] (.t 20) (.t 24))] [[], [], [0,1], [0,1,2], [], [], [4,5], [4,5,6], lr 8] [0,1,5,25] [])
  (.cond (.t 25) (.seq (.reg [Qb 4 false] [4] [])
  (.ret)) (.skip))))
  (.reg [Qm 15 5, Q 16 (.bin .add (.t 15) (kI 1)), Qm 5 16] [0,1,5] []))
def laws_sameTokens.b : C := .seq (.reg [Qb 4 false] [0,1] [])
  (.seq (.seq (.reg [Qm 6 0, Q 7 (.len (.t 6)), Qm 8 1, Q 9 (.len (.t 8)), Q 10 (.bin .neq (.t 7) (.t 9))] [0,1,10] [])
  (.cond (.t 10) (.seq (.reg [Qb 4 false] [4] [])
  (.ret)) (.skip)))
  (.seq (.seq (.reg [Qi 5 0] [0,1,5] [])
  (.block 0 (.loop laws_sameTokens.l0)))
  (.seq (.reg [Qb 4 true] [4] [])
  (.ret))))
def laws_sameTokens.m : Fn := { np := 2, body := laws_sameTokens.b, res := [.tmp 4] }
def laws_sameTokens.k (M : Nat → Option Body) : Prop := M 41 = some (.code laws_sameTokens.m)
def laws_FnTokens.l0 : C := .seq (.seq (.reg [Qm 17 5, Qm 18 3, Q 19 (.len (.t 18)), Q 20 (.bin .lss (.t 17) (.t 19))] [0,3,4,5,20] [])
  (.cond (.t 20) (.skip) (.exit 0)))
  (.seq (.block 1 (.seq (.seq (.reg [Qm 23 5, Q 24 (.bin .gtr (.t 23) (kI 0))] [0,3,4,5,24] [])
  (.cond (.t 24) (.reg [Qm 25 4, Q 26 (.bin .add (.t 25) (.k (.str ⟨#[32]⟩))), Qm 4 26] [0,3,4,5] []) (.skip)))
  (.reg [Qm 27 4, Qm 28 3, Qm 29 5, Qa 30 2 28 29, QL 31 2 30, Q 32 (.call 38 [.t 31] [] []), Q 33 (.bin .add (.t 27) (.t 32)), Qm 4 33] [0,3,4,5] [])))
  (.reg [Qm 21 5, Q 22 (.bin .add (.t 21) (kI 1)), Qm 5 22] [0,3,4,5] []))
def laws_FnTokens.b : C := .seq (.reg [Qb 2 false] [0] [])
  (.seq (.seq (.reg [Qm 13 0, Q 14 (.call 36 [.t 13] [] [])] [0,14] [])
  (.cond (.t 14) (.seq (.reg [Qb 2 true] [2] [])
  (.ret)) (.skip)))
  (.seq (.reg [Qm 15 0, Q 16 (.call 37 [.t 15] [] []), Qm 3 16] [0,3] [])
  (.seq (.reg [Q 4 (.mv (.k (.str ⟨#[]⟩)))] [0,3,4] [])
  (.seq (.seq (.reg [Qi 5 0] [0,3,4,5] [])
  (.block 0 (.loop laws_FnTokens.l0)))
  (.seq (.reg [Qm 34 4, Q 35 (.bin .add (.t 34) (.k (.str ⟨#[13,10]⟩))), Qm 4 35] [0,3,4] [])
  (.seq (.reg [Qm 37 4, Q 38 (.bin .add (.t 37) (.k (.str ⟨#[110,101,120,116]⟩))), Q 39 (.call 39 [.t 38] [] []), Qm 36 39, Qx 40 0 36, Qx 41 1 36, Qx 42 2 36, Qm 6 40, Qm 7 41, Qm 8 42] [0,3,4,6,7,8] [])
  (.seq (.reg [Qm 43 0, Q 44 (.call 40 [.t 43] [] []), Q 45 (.iaddr 1 (.t 44) (kI 0)), Ql 46 45, Qm 47 4, Q 48 (.slen (.t 47)), Q 49 (.bin .rem (.t 46) (.t 48)), Qm 9 49] [3,4,6,7,8,9] [])
  (.seq (.reg [Qm 51 4, Qm 52 9, Q 53 (.sstr (.t 51) none (some (.t 52))), Q 54 (.call 39 [.t 53] [] []), Qm 50 54, Qx 55 0 50, Qx 56 1 50, Qx 57 2 50, Qm 10 55, Qm 11 56, Qm 12 57] [3,4,6,7,8,9,10,11,12] [])
  (.seq (.seq (.reg [Qm 58 4, Q 59 (.slen (.t 58)), Q 60 (.bin .gtr (.t 59) (kI 200))] [3,4,6,7,8,9,10,11,12,60] [])
  (.cond (.t 60) (.seq (.reg [Qm 61 8, Q 62 (.bin .eql (.t 61) (kI 2)), Qm 63 62, Qg 64 (.mv (.t 6)) 63 true, Qg 65 (.len (.t 64)) 63 true, Qg 66 (.bin .eql (.t 65) (kI 0)) 63 true,
    Q 67 (.pick (.t 63) (.t 66) (kB false)), Qm 2 67] [2] [])
  (.ret)) (.skip)))
  (.seq (.reg [Qm 68 8, Q 69 (.bin .eql (.t 68) (kI 0)), Qm 70 69, Qg 71 (.mv (.t 7)) 70 true, Qg 72 (.bin .eql (.t 71) (.k (.str ⟨#[110,101,120,116]⟩))) 70 true,
    Q 73 (.pick (.t 70) (.t 72) (kB false)), Qm 74 73, Qg 75 (.mv (.t 6)) 74 true, Qg 76 (.mv (.t 3)) 74 true, Qg 77 (.call 41 [.t 75, .t 76] [] []) 74 true,
    Q 78 (.pick (.t 74) (.t 77) (kB false)), Qm 79 78, Qg 80 (.mv (.t 12)) 79 true, Qg 81 (.bin .eql (.t 80) (kI 1)) 79 true, Q 82 (.pick (.t 79) (.t 81) (kB false)), Qm 83 82,
    Qg 84 (.mv (.t 11)) 83 true, Qg 85 (.mv (.t 4)) 83 true, Qg 86 (.mv (.t 9)) 83 true, Qg 87 (.sstr (.t 85) none (some (.t 86))) 83 true, Qg 88 (.bin .eql (.t 84) (.t 87)) 83 true,
    Q 89 (.pick (.t 83) (.t 88) (kB false)), Qm 90 89, Qg 91 (.mv (.t 10)) 90 true, Qg 92 (.len (.t 91)) 90 true, Qg 93 (.bin .eql (.t 92) (kI 0)) 90 true,
    Q 94 (.pick (.t 90) (.t 93) (kB false)), Qm 2 94] [2] [])
  (.ret)))))))))))
def laws_FnTokens.m : Fn := { np := 1, body := laws_FnTokens.b, res := [.tmp 2] }
def laws_FnTokens.k (M : Nat → Option Body) : Prop := M 521 = some (.code laws_FnTokens.m) ∧ laws_big.k M ∧ spec_DrawTokens.k M ∧ impl_TokenText.k M ∧ impl_ReadTokens.k M ∧ spec_DrawPlaces.k M ∧ laws_sameTokens.k M
end Mx

namespace Mx
open Go
variable {M : Nat → Option Body}
def esc (b : UInt8) : List UInt8 := if b = 34 ∨ b = 92 then [92, b] else [b]
def escs (l : List UInt8) : List UInt8 := l.flatMap esc
theorem escs_len (l : List UInt8) : (escs l).length ≤ 2 * l.length := by
  induction l with
  | nil => simp [escs]
  | cons b l ih =>
    simp only [escs, List.flatMap_cons, List.length_append, List.length_cons] at ih ⊢
    have : (esc b).length ≤ 2 := by unfold esc; split <;> simp
    omega
theorem escs_take {l : List UInt8} {i : Nat} (hi : i < l.length) : escs (l.take (i + 1)) = escs (l.take i) ++ esc l[i] := by
  unfold escs; rw [List.take_succ_eq_append_getElem hi, List.flatMap_append]; simp
def imS (l : List UInt8) (i : Nat) (x : Nat × Nat) : St := { t := [(0, .c (S l)), (4, .c (.row 6 x.2 0 (34 :: escs (l.take i)).length)), (5, .c (I i))], o := [(6, ⟨x.2, 1, true, false, brow (34 :: escs (l.take i))⟩)], n := x.1 }
theorem im_round (cf : CallF) (k : Nat) (l : List UInt8) (hl : l.length ≤ 1048576) (i : Nat) (hi : i < l.length) (h1 : ¬ l[i] < 32) (h2 : ¬ 126 < l[i]) (x : Nat × Nat) :
    ∃ y, exC cf k impl_QuoteText.l0 (imS l i x) = some (.normal, imS l (i + 1) y) := by
  have e1 : ¬ ((l[i].toNat : Int) < 32) := fun h => h1 ((u8_lt _ 32).1 h)
  have e2 : ¬ ((126 : Int) < (l[i].toNat : Int)) := fun h => h2 ((u8_lt 126 _).1 h)
  have e4 : IntKind.i64.wrap ((i : Int) + 1) = ((i + 1 : Nat) : Int) := wrap_i64 (by omega) (by omega)
  have e6 := escs_take hi
  have hz := escs_len (l.take i)
  rw [List.length_take] at hz
  by_cases h34 : l[i] = 34
  · have e7 : esc 34 = [92, 34] := rfl
    have e8 : [[T.int .u8 92]] = brow [92] := rfl
    have e9 : [[T.int .u8 34]] = brow [34] := rfl
    simp (disch := (first | omega | (simp; done) | (simp; omega))) [imS, impl_QuoteText.l0, hi, bs_get, e1, e2, h34, e4, e6, e7, e8, e9, ite_le, List.take_of_length_le, Prod.exists]
  · by_cases h92 : l[i] = 92
    · have e7 : esc 92 = [92, 92] := rfl
      have e8 : [[T.int .u8 92]] = brow [92] := rfl
      simp (disch := (first | omega | (simp; done) | (simp; omega))) [imS, impl_QuoteText.l0, hi, bs_get, e1, e2, h92, e4, e6, e7, e8, ite_le, List.take_of_length_le, Prod.exists]
    · have e7 : esc l[i] = [l[i]] := by simp [esc, h34, h92]
      have f1 : ¬ ((l[i].toNat : Int) = 34) := fun h => h34 ((u8_eq _ 34).1 h)
      have f2 : ¬ ((l[i].toNat : Int) = 92) := fun h => h92 ((u8_eq _ 92).1 h)
      have e8 : [[T.int .u8 (l[i].toNat : Int)]] = brow [l[i]] := rfl
      simp (disch := (first | omega | (simp; done) | (simp; omega))) [imS, impl_QuoteText.l0, hi, bs_get, e1, e2, f1, f2, e4, e6, e7, e8, ite_le, List.take_of_length_le, Prod.exists]
def bad (b : UInt8) : Bool := decide (b < 32) || decide (126 < b)
def quoted (l : List UInt8) : List UInt8 × Bool := if l.any bad then ([], false) else if 60 < l.length then ([], false) else (34 :: (escs l ++ [34]), true)
theorem bad_split (l : List UInt8) : ∃ n, n ≤ l.length ∧ (∀ i (h : i < l.length), i < n → ¬ l[i] < 32 ∧ ¬ 126 < l[i]) ∧ ((n = l.length ∧ l.any bad = false) ∨ (∃ h : n < l.length, (l[n] < 32 ∨ 126 < l[n]) ∧ l.any bad = true)) := by
  induction l with
  | nil => exact ⟨0, Nat.le_refl _, fun i h => by simp at h, .inl ⟨rfl, rfl⟩⟩
  | cons b l ih =>
    by_cases hb : b < 32 ∨ 126 < b
    · exact ⟨0, by simp, fun i _ h => by omega, .inr ⟨by simp, hb, by simp [bad]; exact .inl hb⟩⟩
    · obtain ⟨n, h1, h2, h3⟩ := ih
      refine ⟨n + 1, by simpa using h1, ?_, ?_⟩
      · intro i h hi
        cases i with
        | zero => simp; exact ⟨by simpa using fun q => hb (.inl q), by simpa using fun q => hb (.inr q)⟩
        | succ i => simpa using h2 i (by simpa using h) (by omega)
      · rcases h3 with ⟨rfl, h⟩ | ⟨h, q1, q2⟩
        · left; refine ⟨rfl, ?_⟩
          have : bad b = false := by simp [bad]; exact ⟨by simpa using fun q => hb (.inl q), by simpa using fun q => hb (.inr q)⟩
          simp [List.any_cons, this]; simpa using h
        · right; exact ⟨by simpa using h, by simpa using q1, by simp [List.any_cons]; right; simpa using q2⟩
theorem impl_QuoteText.says (h : impl_QuoteText.k M) (l : List UInt8) (hl : l.length ≤ 1048576) : run M 127 [.c (S l)] [] = some (.tup [.c (S (quoted l).1), .c (.bool (quoted l).2)], []) := by
  obtain ⟨n, hn, hgood, hend⟩ := bad_split l
  have hz := escs_len l
  refine run_code (b := impl_QuoteText.m) h ⟨n + 1, ?_⟩
  obtain ⟨r, hr, hp⟩ := loop_inv (f := exC (run M) (n + 1) impl_QuoteText.l0) (imS l) (fun r => if l.any bad then ∃ m, r = (.ret, { t := [(2, .c (S [])), (3, .c (.bool false))], o := [], n := m }) else ∃ v m, r = (.exit 0, { t := [(0, .c (S l)), (4, .c (.row 6 v 0 ((escs l).length + 1))), (5, .c (I l.length)), (10, .c (.bool false))], o := [(6, ⟨v, 1, true, false, brow (34 :: escs l)⟩)], n := m })) n
    (fun i hi x => im_round _ _ l hl i (by omega) (hgood i (by omega) hi).1 (hgood i (by omega) hi).2 x)
    (by
      intro x
      rcases hend with ⟨rfl, h⟩ | ⟨h1, h2, h3⟩
      · simp [imS, impl_QuoteText.l0, h]
      · rcases h2 with h2 | h2
        · have e1 : ((l[n].toNat : Int) < 32) := (u8_lt _ 32).2 h2
          simp [imS, impl_QuoteText.l0, h1, h3, bs_get, e1]
        · have e1 : ((126 : Int) < (l[n].toNat : Int)) := (u8_lt 126 _).2 h2
          have e2 : ¬ ((l[n].toNat : Int) < 32) := by omega
          simp [imS, impl_QuoteText.l0, h1, h3, bs_get, e1, e2])
    (n + 1) (by omega) (2000080, 2000032)
  have e8 : [[T.int .u8 34]] = brow [34] := rfl
  simp [imS, escs] at hr
  cases hb : l.any bad with
  | true =>
    rw [hb, if_pos rfl] at hp
    obtain ⟨m, rfl⟩ := hp
    simp [exB, impl_QuoteText.m, impl_QuoteText.b, List.range_succ, e8, hr, quoted, hb]
  | false =>
    rw [hb, if_neg (by simp)] at hp
    obtain ⟨v, m, rfl⟩ := hp
    by_cases h60 : 60 < l.length
    · have e1 : (60 : Int) < (l.length : Int) := by omega
      simp [exB, impl_QuoteText.m, impl_QuoteText.b, List.range_succ, e8, hr, quoted, hb, h60, e1]
    · have e1 : ¬ (60 : Int) < (l.length : Int) := by omega
      simp (disch := (first | omega | (simp; done) | (simp; omega))) [exB, impl_QuoteText.m, impl_QuoteText.b, List.range_succ, hr, quoted, hb, h60, e1, ite_le, e8, List.take_of_length_le]
end Mx

namespace Mx
open Go
variable {M : Nat → Option Body}
def fig (d : Nat) : UInt8 := UInt8.ofNat (48 + d)
def digs (m : Nat) (acc : List UInt8) : List UInt8 := if m = 0 then acc else digs (m / 10) (fig (m % 10) :: acc)
termination_by m
decreasing_by omega
theorem digs_zero (acc : List UInt8) : digs 0 acc = acc := by rw [digs]; simp
theorem digs_step {m : Nat} (h : m ≠ 0) (acc : List UInt8) : digs m acc = digs (m / 10) (fig (m % 10) :: acc) := by rw [digs, if_neg h]
def dec (n : Int) : List UInt8 := if n = 0 then [48] else (if n < 0 then [45] else []) ++ digs n.natAbs []
theorem digs_len : ∀ (k m : Nat) (acc : List UInt8), m < 10 ^ k → (digs m acc).length ≤ acc.length + k := by
  intro k
  induction k with
  | zero => intro m acc h; have : m = 0 := by simpa using h
            subst this; rw [digs_zero]; omega
  | succ k ih =>
    intro m acc h
    by_cases h0 : m = 0
    · subst h0; rw [digs_zero]; omega
    · rw [digs_step h0]
      have := ih (m / 10) (fig (m % 10) :: acc) (by rw [Nat.pow_succ] at h; omega)
      simp at this; omega
theorem dec_len {n : Int} (h : -9223372036854775808 ≤ n) (h' : n ≤ 9223372036854775807) : (dec n).length ≤ 21 := by
  unfold dec
  have := digs_len 20 n.natAbs [] (by omega)
  simp at this
  split
  · simp
  · split <;> simp <;> omega
def decInv (s : Int × List UInt8) : Prop := -9223372036854775808 ≤ s.1 ∧ s.1 ≤ 9223372036854775807 ∧ ∃ k, s.1.natAbs < 10 ^ k ∧ s.2.length + k ≤ 20
theorem decInv_step {n : Int} {acc : List UInt8} (h : decInv (n, acc)) (h0 : n ≠ 0) (b : UInt8) : decInv (n.tdiv 10, b :: acc) := by
  obtain ⟨h1, h2, k, h3, h4⟩ := h
  simp only at h1 h2 h3 h4
  have e : (n.tdiv 10).natAbs = n.natAbs / 10 := by rw [Int.natAbs_tdiv]; rfl
  cases k with
  | zero => simp at h3; omega
  | succ k => exact ⟨by simp only; omega, by simp only; omega, k, by simp only; rw [e]; rw [Nat.pow_succ] at h3; omega, by simp; omega⟩
theorem tmod_ten (n : Int) : n.tmod 10 = (n.natAbs % 10 : Nat) ∨ (n.tmod 10 < 0 ∧ n.tmod 10 = - (n.natAbs % 10 : Nat)) := by
  have e : (n.tmod 10).natAbs = n.natAbs % 10 := by rw [Int.natAbs_tmod]; rfl
  omega
def imDec (n : Int) (s : Int × List UInt8) (x : Nat) : St := { t := [(0, .c (I n)), (3, .c (S s.2)), (4, .c (I s.1))], o := [], n := x }
theorem fig_of : ∀ d : Nat, d < 10 → ∃ h : d < 16, ([48, 49, 50, 51, 52, 53, 54, 55, 56, 57, 97, 98, 99, 100, 101, 102] : List UInt8)[d] = fig d := by decide
theorem impl_Decimal.round (k : Nat) (n0 : Int) (s : Int × List UInt8) (x : Nat) (hi : decInv s) (h0 : s.1 ≠ 0) :
    ∃ y, exC (run M) k impl_Decimal.l0 (imDec n0 s x) = some (.normal, imDec n0 (s.1.tdiv 10, fig (s.1.natAbs % 10) :: s.2) y) := by
  obtain ⟨n, acc⟩ := s
  obtain ⟨h1, h2, k', h3, h4⟩ := hi
  simp only at h0 h1 h2 h3 h4
  have ed : (n.tdiv 10).natAbs = n.natAbs / 10 := by rw [Int.natAbs_tdiv]; rfl
  have e1 : IntKind.i64.wrap (n.tdiv 10) = n.tdiv 10 := wrap_i64 (by omega) (by omega)
  have e2 : acc.length + 1 ≤ 4611686018427387904 := by omega
  have e3 : 1 + acc.length ≤ 4611686018427387904 := by omega
  have hd : n.natAbs % 10 < 10 := by omega
  have e5 : IntKind.i64.wrap (((n.natAbs % 10 : Nat) : Int) + 1) = ((n.natAbs % 10 + 1 : Nat) : Int) := wrap_i64 (by omega) (by omega)
  have e4 : IntKind.i64.wrap (-(n.tmod 10)) = -(n.tmod 10) := wrap_i64 (by have := tmod_ten n; omega) (by have := tmod_ten n; omega)
  have e6 : (if n.tmod 10 < -(n.tmod 10) then -(n.tmod 10) else n.tmod 10) = ((n.natAbs % 10 : Nat) : Int) := by
    rcases tmod_ten n with ht | ⟨ht0, ht⟩ <;> split <;> omega
  generalize n.natAbs % 10 = d at *
  obtain ⟨hd16, hfig⟩ := fig_of d hd
  have e7 := take_drop1 ([48, 49, 50, 51, 52, 53, 54, 55, 56, 57, 97, 98, 99, 100, 101, 102] : List UInt8) d hd16
  rw [hfig] at e7
  simp only [List.take_succ_cons] at e7
  have e8 : d + 1 ≤ 16 := by omega
  have e9 : (0 : Int) ≤ (d : Int) + 1 := by omega
  have e10 : ((d : Int) + 1).toNat = d + 1 := by omega
  simp only [imDec, impl_Decimal.l0]
  simp (disch := (first | omega | (simp; done) | (simp; omega))) [h0, e4, e5, e6, e7, e8, e9, e10, e1, str_add]
theorem impl_Decimal.says (h : impl_Decimal.k M) (n : Int) (hn : -9223372036854775808 ≤ n) (hn' : n ≤ 9223372036854775807) : run M 128 [.c (I n)] [] = some (.c (S (dec n)), []) := by
  refine run_code (b := impl_Decimal.m) h ⟨n.natAbs + 1, ?_⟩
  by_cases h0 : n = 0
  · simp [exB, impl_Decimal.m, impl_Decimal.b, List.range_succ, h0, dec]
  obtain ⟨g, hr⟩ := loop_all (f := exC (run M) (n.natAbs + 1) impl_Decimal.l0) (imDec n) decInv (fun s => s.1.natAbs) (fun s => digs s.1.natAbs s.2)
    (fun q m => (.exit 0, { t := [(0, .c (I n)), (3, .c (S q)), (4, .c (I 0)), (10, .c (.bool false))], o := [], n := m }))
    (by
      intro s x hi
      by_cases hs : s.1 = 0
      · right
        exact ⟨x + 32, by simp [imDec, impl_Decimal.l0, hs, digs_zero], by simp⟩
      · left
        obtain ⟨y, hy⟩ := impl_Decimal.round (n.natAbs + 1) n s x hi hs
        have e : (s.1.tdiv 10).natAbs = s.1.natAbs / 10 := by rw [Int.natAbs_tdiv]; rfl
        refine ⟨_, y, hy, decInv_step hi hs _, by simp only; omega, ?_⟩
        simp only [e]
        exact (digs_step (by omega) _).symm)
    (n.natAbs + 1) (n, []) ⟨hn, hn', 20, by simp only; omega, by simp⟩ (by simp only; omega)
  have hl := digs_len 20 n.natAbs [] (by omega)
  simp [imDec] at hr hl
  by_cases hneg : n < 0
  · simp (disch := (first | omega | (simp; done) | (simp; omega))) [exB, impl_Decimal.m, impl_Decimal.b, List.range_succ, h0, dec, hneg, hr, str_add]
  · simp (disch := (first | omega | (simp; done) | (simp; omega))) [exB, impl_Decimal.m, impl_Decimal.b, List.range_succ, h0, dec, hneg, hr]
end Mx

namespace Mx
open Go
variable {M : Nat → Option Body}
structure Token where
  kind : Int
  text : List UInt8
def encToken (x : Token) : List T := [I x.kind, S x.text]
def tokenText (x : Token) : List UInt8 := if x.kind = 1 then x.text else if (quoted x.text).2 then (quoted x.text).1 else [123] ++ dec x.text.length ++ [125, 13, 10] ++ x.text
theorem impl_TokenText.says (h : impl_TokenText.k M) (x : Token) (hx : x.text.length ≤ 1048576) : run M 38 [.a (encToken x)] [] = some (.c (S (tokenText x)), []) := by
  have h1 := impl_QuoteText.says h.2.1 x.text hx
  have h2 := impl_Decimal.says h.2.2 x.text.length (by omega) (by omega)
  have h3 := dec_len (n := x.text.length) (by omega) (by omega)
  refine run_code (b := impl_TokenText.m) h.1 ⟨0, ?_⟩
  by_cases hk : x.kind = 1
  · simp [exB, impl_TokenText.m, impl_TokenText.b, List.range_succ, encToken, tokenText, hk]
  · cases hq : (quoted x.text).2 with
    | true =>
      rw [hq] at h1
      simp [exB, impl_TokenText.m, impl_TokenText.b, List.range_succ, encToken, tokenText, hk, hq, h1]
    | false =>
      rw [hq] at h1
      simp (disch := (first | omega | (simp; done) | (simp; omega))) [exB, impl_TokenText.m, impl_TokenText.b, List.range_succ, encToken, tokenText, hk, hq, h1, h2, str_add]
end Mx

namespace Mx
open Go
variable {M : Nat → Option Body}
theorem impl_within.says (h : impl_within.k M) (n a b : Int) : run M 101 [.c (I n), .c (I a), .c (I b)] [] = some (.c (.bool (decide (a ≤ n) && decide (n ≤ b))), []) := by
  refine run_code (b := impl_within.m) h ⟨0, ?_⟩
  by_cases h : a ≤ n
  · have h' : n ≥ a := h
    simp [exB, impl_within.m, impl_within.b, List.range_succ, h]
  · have h' : ¬ n ≥ a := h
    simp [exB, impl_within.m, impl_within.b, List.range_succ, h]
end Mx

namespace Mx
open Go
variable {M : Nat → Option Body}
def atomB (n : Int) : Bool := !(decide (n < 33) || decide (126 < n) || decide (n = 34) || decide (n = 40) || decide (n = 41) || decide (n = 123) || decide (n = 125) || decide (n = 92))
def atomOk (l : List UInt8) : Bool := l.all (fun b => atomB b.toNat) && (decide (1 ≤ (l.length : Int)) && decide ((l.length : Int) ≤ 40))
theorem index_atoms (n : Int) (h0 : 0 ≤ n) (h1 : n < 128) : (decide (0 ≤ Lib.indexByte [34, 40, 41, 123, 125, 92] n.toNat.toUInt8)) = (decide (n = 34) || decide (n = 40) || decide (n = 41) || decide (n = 123) || decide (n = 125) || decide (n = 92)) := by
  obtain ⟨k, rfl⟩ := Int.eq_ofNat_of_zero_le h0
  have h2 : k < 128 := by omega
  have : ∀ k : Nat, k < 128 → (decide (0 ≤ Lib.indexByte [34, 40, 41, 123, 125, 92] ((k : Int).toNat.toUInt8))) = (decide ((k : Int) = 34) || decide ((k : Int) = 40) || decide ((k : Int) = 41) || decide ((k : Int) = 123) || decide ((k : Int) = 125) || decide ((k : Int) = 92)) := by decide +kernel
  exact this k h2
theorem impl_isAtom.says (h : impl_isAtom.k M) (b : UInt8) : run M 256 [.c (U8 b.toNat)] [] = some (.c (.bool (atomB b.toNat)), []) := by
  refine run_code (b := impl_isAtom.m) h.1 ⟨0, ?_⟩
  by_cases h1 : (b.toNat : Int) < 33
  · have h1' : ¬ 33 ≤ (b.toNat : Int) := by omega
    simp [exB, impl_isAtom.m, impl_isAtom.b, List.range_succ, h1, h1', atomB]
  by_cases h2 : 126 < (b.toNat : Int)
  · have h1' : 33 ≤ (b.toNat : Int) := by omega
    have h2' : ¬ (b.toNat : Int) ≤ 126 := by omega
    simp [exB, impl_isAtom.m, impl_isAtom.b, List.range_succ, h1, h1', h2, h2', atomB]
  have h1' : 33 ≤ (b.toNat : Int) := by omega
  have h2' : (b.toNat : Int) ≤ 126 := by omega
  have e1 : IntKind.i32.wrap (b.toNat : Int) = (b.toNat : Int) := by
    unfold IntKind.wrap; simp [IntKind.bits, IntKind.signed] <;> omega
  have e2 := run_ext_plain h.2 (ts := [.str ⟨#[34, 40, 41, 123, 125, 92]⟩, .int .i32 b.toNat]) (r := .bool (decide (0 ≤ Lib.indexByte [34, 40, 41, 123, 125, 92] (b.toNat : Int).toNat.toUInt8)))
    (by simp only [strings_ContainsRune.g]; rw [if_pos ⟨by omega, by omega⟩])
  rw [index_atoms _ (by omega) (by omega)] at e2
  simp only [List.map_cons, List.map_nil] at e2
  simp [exB, impl_isAtom.m, impl_isAtom.b, List.range_succ, h1, h1', h2, h2', e1, e2, atomB]
end Mx

namespace Mx
open Go
abbrev TokR := Token × Nat × Int
def tokMore : TokR := (⟨0, []⟩, 0, 1)
def tokBad : TokR := (⟨0, []⟩, 0, 2)
/-- a quoted text from its first byte on -/
def qGo : List UInt8 → List UInt8 → Nat → TokR
  | [], _, _ => tokMore
  | [b], x, i => if b = 34 then (⟨2, x⟩, i + 1, 0) else if b = 92 then tokMore else if bad b then tokBad else if 60 ≤ x.length then tokBad else tokMore
  | b :: c :: r, x, i =>
    if b = 34 then (⟨2, x⟩, i + 1, 0) else
    if b = 92 then (if c = 34 ∨ c = 92 then (if 60 ≤ x.length then tokBad else qGo r (x ++ [c]) (i + 2)) else tokBad) else
    if bad b then tokBad else if 60 ≤ x.length then tokBad else qGo (c :: r) (x ++ [b]) (i + 1)
theorem qGo_34 (r x : List UInt8) (i : Nat) : qGo (34 :: r) x i = (⟨2, x⟩, i + 1, 0) := by
  cases r <;> simp [qGo]
theorem qGo_esc {c : UInt8} (hc : c = 34 ∨ c = 92) (r x : List UInt8) (hx : x.length < 60) (i : Nat) : qGo (92 :: c :: r) x i = qGo r (x ++ [c]) (i + 2) := by
  rw [qGo, if_neg (by decide), if_pos rfl, if_pos hc, if_neg (by omega)]
theorem qGo_one {b : UInt8} (h1 : ¬ (b = 34 ∨ b = 92)) (h2 : bad b = false) (r x : List UInt8) (hx : x.length < 60) (i : Nat) : qGo (b :: r) x i = qGo r (x ++ [b]) (i + 1) := by
  have h3 : ¬ b = 34 := fun e => h1 (.inl e)
  have h4 : ¬ b = 92 := fun e => h1 (.inr e)
  cases r with
  | nil =>
    have h5 : ¬ 60 ≤ x.length := by omega
    simp [qGo, h3, h4, h2, h5]
  | cons c r => rw [qGo, if_neg h3, if_neg h4, if_neg (by rw [h2]; simp), if_neg (by omega)]
theorem q_back : ∀ (y x rest : List UInt8) (i : Nat), y.any bad = false → x.length + y.length ≤ 60 → qGo (escs y ++ 34 :: rest) x i = (⟨2, x ++ y⟩, i + (escs y).length + 1, 0)
  | [], x, rest, i, _, _ => by simp [escs, qGo_34]
  | b :: y, x, rest, i, hb, hx => by
    simp only [List.any_cons, Bool.or_eq_false_iff] at hb
    simp only [List.length_cons] at hx
    have ih := q_back y (x ++ [b]) rest
    have e : escs (b :: y) = esc b ++ escs y := rfl
    rw [e]
    unfold esc
    split
    · rename_i c
      simp only [List.cons_append, List.nil_append, List.length_cons]
      rw [qGo_esc c _ _ (by omega), ih _ hb.2 (by simp; omega)]
      simp only [List.append_assoc, List.cons_append, List.nil_append]
      congr 2; omega
    · rename_i c
      simp only [List.cons_append, List.nil_append, List.length_cons]
      rw [qGo_one c hb.1 _ _ (by omega), ih _ hb.2 (by simp; omega)]
      simp only [List.append_assoc, List.cons_append, List.nil_append]
      congr 2; omega
theorem q_cut : ∀ (y x : List UInt8) (i k : Nat), y.any bad = false → x.length + y.length ≤ 60 → k ≤ (escs y).length → qGo ((escs y).take k) x i = tokMore
  | [], x, i, k, _, _, _ => by simp [escs, qGo]
  | b :: y, x, i, k, hb, hx, hk => by
    simp only [List.any_cons, Bool.or_eq_false_iff] at hb
    simp only [List.length_cons] at hx
    have ih := q_cut y (x ++ [b])
    have e : escs (b :: y) = esc b ++ escs y := rfl
    rw [e] at hk ⊢
    unfold esc at hk ⊢
    split at hk
    · rename_i c
      rw [if_pos c]
      match k, hk with
      | 0, _ => simp [qGo]
      | 1, _ => simp [qGo]
      | k + 2, hk =>
        simp only [List.cons_append, List.nil_append, List.take_succ_cons, List.length_cons, List.length_append] at hk ⊢
        rw [qGo_esc c _ _ (by omega), ih _ _ hb.2 (by simp; omega) (by simp at hk; omega)]
    · rename_i c
      rw [if_neg c]
      match k, hk with
      | 0, _ => simp [qGo]
      | k + 1, hk =>
        simp only [List.cons_append, List.nil_append, List.take_succ_cons, List.length_cons, List.length_append] at hk ⊢
        rw [qGo_one c hb.1 _ _ (by omega), ih _ _ hb.2 (by simp; omega) (by simp at hk; omega)]
/-- the length ahead of a counted text: it, and the place behind it -/
def isDig (b : UInt8) : Bool := decide (48 ≤ b) && decide (b ≤ 57)
def cNum : List UInt8 → Nat × Nat
  | [] => (0, 1)
  | [a] => if isDig a then (a.toNat - 48, 2) else (0, 1)
  | a :: b :: _ => if isDig a then (if isDig b then (10 * (a.toNat - 48) + (b.toNat - 48), 3) else (a.toNat - 48, 2)) else (0, 1)
def hd3 : List UInt8 := [125, 13, 10]
def cText (l : List UInt8) (n i : Nat) : TokR :=
  if l.drop i = [] ∧ n ≤ 60 then tokMore else if i = 1 ∨ 60 < n then tokBad else
  if (l.drop i).length < 3 ∧ l.drop i = hd3.take (l.drop i).length then tokMore else
  if (l.drop i).take 3 ≠ hd3 then tokBad else if (l.drop i).length < 3 + n then tokMore else (⟨2, (l.drop (i + 3)).take n⟩, i + 3 + n, 0)
def counted (l : List UInt8) : TokR := cText l (cNum (l.drop 1)).1 (cNum (l.drop 1)).2
theorem fig_num {d : Nat} (h : d < 10) : isDig (fig d) = true ∧ (fig d).toNat - 48 = d := by
  have : ∀ d : Fin 10, isDig (fig d) = true ∧ (fig d).toNat - 48 = d := by decide
  exact this ⟨d, h⟩
theorem dec_small {n : Nat} (h : n ≤ 99) : dec (n : Int) = if n < 10 then [fig n] else [fig (n / 10), fig (n % 10)] := by
  unfold dec
  by_cases c : n = 0
  · subst c; simp; rfl
  rw [if_neg (by omega), if_neg (by omega), List.nil_append, Int.natAbs_natCast, digs_step c]
  by_cases c2 : n < 10
  · rw [if_pos c2, show n / 10 = 0 by omega, digs_zero, Nat.mod_eq_of_lt c2]
  · rw [if_neg c2, digs_step (by omega), show n / 10 / 10 = 0 by omega, digs_zero, show n / 10 % 10 = n / 10 by omega]
theorem cText_full {p x q : List UInt8} {n i : Nat} (hi : 1 < i) (hn : n ≤ 60) (hp : p.length = i) (hx : x.length = n) : cText (p ++ (hd3 ++ (x ++ q))) n i = (⟨2, x⟩, i + 3 + n, 0) := by
  have e : (p ++ (hd3 ++ (x ++ q))).drop i = hd3 ++ (x ++ q) := by rw [← hp, List.drop_left]
  have e2 : (p ++ (hd3 ++ (x ++ q))).drop (i + 3) = x ++ q := by
    rw [← List.drop_drop, e]; rfl
  unfold cText
  rw [e, e2]
  rw [if_neg (by simp [hd3]), if_neg (by omega), if_neg (by rintro ⟨h, _⟩; simp [hd3] at h; omega), if_neg (by simp [hd3]), if_neg (by simp [hd3]; omega), ← hx, List.take_left]
theorem cText_cut {p x : List UInt8} {n i k : Nat} (hi : 1 < i) (hn : n ≤ 60) (hp : p.length = i) (hx : x.length = n) (hk : k < 3 + n) : cText (p ++ (hd3 ++ x).take k) n i = tokMore := by
  have e : (p ++ (hd3 ++ x).take k).drop i = (hd3 ++ x).take k := by rw [← hp, List.drop_left]
  unfold cText
  rw [e]
  match k, hk with
  | 0, _ => rw [if_pos ⟨rfl, hn⟩]
  | 1, _ => simp [hd3]; omega
  | 2, _ => simp [hd3]; omega
  | k + 3, hk =>
    have e3 : (hd3 ++ x).take (k + 3) = hd3 ++ x.take k := by simp [hd3]
    rw [e3, if_neg (by simp [hd3]), if_neg (by omega), if_neg (by rintro ⟨h, _⟩; simp [hd3] at h; omega), if_neg (by simp [hd3]), if_pos (by simp [hd3]; omega)]
theorem counted_back {x : List UInt8} (hx : x.length ≤ 60) (q : List UInt8) : counted (123 :: (dec x.length ++ (hd3 ++ (x ++ q)))) = (⟨2, x⟩, 1 + (dec x.length).length + 3 + x.length, 0) := by
  rw [dec_small (by omega)]
  unfold counted
  rw [List.drop_succ_cons, List.drop_zero]
  by_cases c : x.length < 10
  · rw [if_pos c]
    obtain ⟨f1, f2⟩ := fig_num c
    have : cNum ([fig x.length] ++ (hd3 ++ (x ++ q))) = (x.length, 2) := by
      simp only [hd3, List.cons_append, List.nil_append, cNum, f1, f2, if_true]
      rw [if_neg (by decide)]
    rw [this]
    exact cText_full (p := [123, fig x.length]) (by omega) hx rfl rfl
  · rw [if_neg c]
    obtain ⟨f1, f2⟩ := fig_num (d := x.length / 10) (by omega)
    obtain ⟨g1, g2⟩ := fig_num (d := x.length % 10) (by omega)
    have : cNum ([fig (x.length / 10), fig (x.length % 10)] ++ (hd3 ++ (x ++ q))) = (x.length, 3) := by
      simp only [List.cons_append, List.nil_append, cNum, f1, f2, g1, g2, if_true]
      congr 1; omega
    rw [this]
    exact cText_full (p := [123, fig (x.length / 10), fig (x.length % 10)]) (by omega) hx rfl rfl
theorem counted_cut {x : List UInt8} (hx : x.length ≤ 60) {k : Nat} (hk : k < 1 + (dec x.length).length + 3 + x.length) (h1 : 1 ≤ k) : counted ((123 :: (dec x.length ++ (hd3 ++ x))).take k) = tokMore := by
  rw [dec_small (by omega)] at hk ⊢
  unfold counted
  by_cases c : x.length < 10
  · rw [if_pos c] at hk ⊢
    obtain ⟨f1, f2⟩ := fig_num c
    match k, h1, hk with
    | 1, _, _ => simp [cNum, cText]
    | k + 2, _, hk =>
      simp only [List.cons_append, List.nil_append, List.take_succ_cons, List.drop_succ_cons, List.drop_zero, List.length_cons, List.length_nil] at hk ⊢
      have : cNum (fig x.length :: (hd3 ++ x).take k) = (x.length, 2) := by
        cases k with
        | zero => simp only [List.take_zero, cNum, f1, f2, if_true]
        | succ k =>
          simp only [hd3, List.cons_append, List.nil_append, List.take_succ_cons, cNum, f1, f2, if_true]
          rw [if_neg (by decide)]
      rw [this]
      exact cText_cut (p := [123, fig x.length]) (by omega) hx rfl rfl (by omega)
  · rw [if_neg c] at hk ⊢
    obtain ⟨f1, f2⟩ := fig_num (d := x.length / 10) (by omega)
    obtain ⟨g1, g2⟩ := fig_num (d := x.length % 10) (by omega)
    match k, h1, hk with
    | 1, _, _ => simp [cNum, cText]
    | 2, _, _ =>
      simp only [List.cons_append, List.nil_append, List.take_succ_cons, List.take_zero, List.drop_succ_cons, List.drop_zero, cNum, f1, f2, if_true]
      unfold cText
      rw [if_pos ⟨rfl, by omega⟩]
    | k + 3, _, hk =>
      simp only [List.cons_append, List.nil_append, List.take_succ_cons, List.drop_succ_cons, List.drop_zero, List.length_cons, List.length_nil] at hk ⊢
      have : cNum (fig (x.length / 10) :: fig (x.length % 10) :: (hd3 ++ x).take k) = (x.length, 3) := by
        simp only [cNum, f1, f2, g1, g2, if_true]
        congr 1; omega
      rw [this]
      exact cText_cut (p := [123, fig (x.length / 10), fig (x.length % 10)]) (by omega) hx rfl rfl (by omega)
/-- how many bytes of an atom come first -/
def atomN (l : List UInt8) : Nat := (l.takeWhile fun b => atomB b.toNat).length
def tokenAt (l : List UInt8) : TokR :=
  if l.head? = some 34 then qGo (l.drop 1) [] 1 else if l.head? = some 123 then counted l else
  if atomN l < 1 ∨ 40 < atomN l then tokBad else if atomN l = l.length then tokMore else (⟨1, l.take (atomN l)⟩, atomN l, 0)
def goodTok (t : Token) : Prop := (t.kind = 1 ∧ atomOk t.text = true) ∨ (t.kind = 2 ∧ t.text.length ≤ 60)
theorem atomN_all {x : List UInt8} (h : ∀ b ∈ x, atomB b.toNat = true) (c : UInt8) (hc : atomB c.toNat = false) (r : List UInt8) : atomN (x ++ c :: r) = x.length := by
  unfold atomN
  rw [List.takeWhile_append_of_pos h]
  simp [hc]
theorem atomN_whole {x : List UInt8} (h : ∀ b ∈ x, atomB b.toNat = true) : atomN x = x.length := by
  unfold atomN
  have := List.takeWhile_append_of_pos (p := fun b : UInt8 => atomB b.toNat) (l₁ := x) (l₂ := []) h
  rw [List.append_nil, List.takeWhile_nil, List.append_nil] at this
  rw [this]
theorem atom_head {x : List UInt8} (h : ∀ b ∈ x, atomB b.toNat = true) {r : List UInt8} (hx : 1 ≤ x.length) : ¬ (x ++ r).head? = some 34 ∧ ¬ (x ++ r).head? = some 123 := by
  cases x with
  | nil => simp at hx
  | cons b x =>
    have hb := h b (List.mem_cons_self ..)
    simp only [List.cons_append, List.head?_cons, Option.some.injEq]
    constructor
    · rintro rfl; revert hb; decide
    · rintro rfl; revert hb; decide
theorem tokenText_pos {t : Token} (h : goodTok t) : 1 ≤ (tokenText t).length := by
  unfold tokenText
  rcases h with ⟨h1, h2⟩ | ⟨h1, h2⟩
  · rw [if_pos h1]
    simp only [atomOk, Bool.and_eq_true, decide_eq_true_eq] at h2
    omega
  · rw [if_neg (by omega)]
    split
    · rename_i c; unfold quoted at c ⊢
      split
      · rename_i d; rw [if_pos d] at c; cases c
      · split
        · rename_i d d2; rw [if_neg d, if_pos d2] at c; cases c
        · simp
    · simp
theorem quoted_parts {x : List UInt8} (h : (quoted x).2 = true) : x.any bad = false ∧ x.length ≤ 60 ∧ (quoted x).1 = 34 :: (escs x ++ [34]) := by
  unfold quoted at h ⊢
  split at h
  · cases h
  · split at h
    · cases h
    · rename_i c1 c2
      rw [if_neg c1, if_neg c2]
      exact ⟨by simpa using c1, by omega, rfl⟩
theorem token_back {t : Token} (h : goodTok t) {c : UInt8} (hc : atomB c.toNat = false) (r : List UInt8) : tokenAt (tokenText t ++ c :: r) = (t, (tokenText t).length, 0) := by
  obtain ⟨k, x⟩ := t
  unfold tokenText
  rcases h with ⟨h1, h2⟩ | ⟨h1, h2⟩
  · simp only at h1 h2
    subst h1
    rw [if_pos rfl]
    simp only [atomOk, Bool.and_eq_true, decide_eq_true_eq, List.all_eq_true] at h2
    obtain ⟨ha, hb⟩ := h2
    obtain ⟨g1, g2⟩ := atom_head ha (r := c :: r) (by omega)
    unfold tokenAt
    rw [if_neg g1, if_neg g2, atomN_all ha c hc, if_neg (by omega), if_neg (by simp), List.take_left]
  · simp only at h1 h2
    subst h1
    rw [if_neg (by simp)]
    split
    · rename_i q
      obtain ⟨q1, q2, q3⟩ := quoted_parts q
      rw [q3]
      unfold tokenAt
      rw [if_pos (by simp)]
      simp only [List.cons_append, List.drop_succ_cons, List.drop_zero, List.append_assoc, List.nil_append, List.length_cons, List.length_append, List.length_nil]
      rw [q_back x [] _ 1 q1 (by simpa using q2), List.nil_append]
      congr 2; omega
    · unfold tokenAt
      rw [if_neg (by simp), if_pos (by simp)]
      have := counted_back h2 (c :: r)
      simp only [hd3, List.cons_append, List.nil_append, List.append_assoc, List.length_cons, List.length_append, List.length_nil] at this ⊢
      rw [this]
      congr 2; omega
theorem token_cut {t : Token} (h : goodTok t) {k : Nat} (h1 : 1 ≤ k) (hk : k < (tokenText t).length) : tokenAt ((tokenText t).take k) = tokMore := by
  obtain ⟨kd, x⟩ := t
  unfold tokenText at hk ⊢
  rcases h with ⟨e1, e2⟩ | ⟨e1, e2⟩
  · simp only at e1 e2
    subst e1
    rw [if_pos rfl] at hk ⊢
    simp only at hk ⊢
    simp only [atomOk, Bool.and_eq_true, decide_eq_true_eq, List.all_eq_true] at e2
    obtain ⟨ha, hb⟩ := e2
    have ha' : ∀ b ∈ x.take k, atomB b.toNat = true := fun b hb => ha b (List.mem_of_mem_take hb)
    obtain ⟨g1, g2⟩ := atom_head ha' (r := []) (by rw [List.length_take]; omega)
    rw [List.append_nil] at g1 g2
    unfold tokenAt
    rw [if_neg g1, if_neg g2, atomN_whole ha', if_neg (by rw [List.length_take]; omega), if_pos rfl]
  · simp only at e1 e2
    subst e1
    rw [if_neg (by simp)] at hk ⊢
    split at hk
    · rename_i q
      rw [if_pos q]
      simp only at q
      obtain ⟨q1, q2, q3⟩ := quoted_parts q
      simp only at hk ⊢
      rw [q3] at hk ⊢
      obtain ⟨j, rfl⟩ : ∃ j, k = j + 1 := ⟨k - 1, by omega⟩
      simp only [List.length_cons, List.length_append, List.length_nil] at hk
      rw [List.take_succ_cons, List.take_append_of_le_length (by omega)]
      unfold tokenAt
      rw [if_pos (by simp), List.drop_succ_cons, List.drop_zero]
      exact q_cut x [] 1 j q1 (by simpa using q2) (by omega)
    · rename_i q
      rw [if_neg q]
      have := counted_cut e2 (k := k) (by simp at hk ⊢; omega) h1
      obtain ⟨j, rfl⟩ : ∃ j, k = j + 1 := ⟨k - 1, by omega⟩
      unfold tokenAt
      simp only [hd3, List.cons_append, List.nil_append, List.append_assoc, List.take_succ_cons, List.head?_cons] at this ⊢
      rw [if_neg (by decide)]
      simp only [if_true]
      exact this
/-- a text that is a token and ends: more to come, too -/
theorem token_whole {t : Token} (h : goodTok t) : tokenAt (tokenText t) = tokMore ∨ tokenAt (tokenText t) = (t, (tokenText t).length, 0) := by
  obtain ⟨kd, x⟩ := t
  unfold tokenText
  rcases h with ⟨e1, e2⟩ | ⟨e1, e2⟩
  · simp only at e1 e2
    subst e1
    rw [if_pos rfl]
    simp only [atomOk, Bool.and_eq_true, decide_eq_true_eq, List.all_eq_true] at e2
    obtain ⟨ha, hb⟩ := e2
    obtain ⟨g1, g2⟩ := atom_head ha (r := []) (by omega)
    rw [List.append_nil] at g1 g2
    left
    unfold tokenAt
    rw [if_neg g1, if_neg g2, atomN_whole ha, if_neg (by omega), if_pos rfl]
  · simp only at e1 e2
    subst e1
    rw [if_neg (by simp)]
    right
    split
    · rename_i q
      obtain ⟨q1, q2, q3⟩ := quoted_parts q
      rw [q3]
      unfold tokenAt
      rw [if_pos (by simp)]
      simp only [List.drop_succ_cons, List.drop_zero, List.length_cons, List.length_append, List.length_nil]
      rw [q_back x [] [] 1 q1 (by simpa using q2), List.nil_append]
      congr 2; omega
    · unfold tokenAt
      rw [if_neg (by simp), if_pos (by simp)]
      have := counted_back e2 []
      simp only [hd3, List.cons_append, List.nil_append, List.append_assoc, List.length_cons, List.length_append, List.length_nil, List.append_nil] at this ⊢
      rw [this]
      congr 2; omega
end Mx

namespace Mx
open Go
abbrev SaidR := List Token × Nat × Int
def saidGo (l : List UInt8) : Nat → Nat → List Token → SaidR
  | 0, _, _ => ([], 0, 1)
  | d + 1, a, acc =>
    if l.length ≤ a then ([], 0, 1) else
    if (tokenAt (l.drop a)).2.2 ≠ 0 then ([], 0, (tokenAt (l.drop a)).2.2) else
    if l.drop (a + (tokenAt (l.drop a)).2.1) = [] ∨ l.drop (a + (tokenAt (l.drop a)).2.1) = [13] then ([], 0, 1) else
    if (l.drop (a + (tokenAt (l.drop a)).2.1)).take 2 = [13, 10] then (acc ++ [(tokenAt (l.drop a)).1], a + (tokenAt (l.drop a)).2.1 + 2, 0) else
    if (l.drop (a + (tokenAt (l.drop a)).2.1)).head? ≠ some 32 ∨ acc.length = 7 then ([], 0, 2) else
    saidGo l d (a + (tokenAt (l.drop a)).2.1 + 1) (acc ++ [(tokenAt (l.drop a)).1])
def said (l : List UInt8) : SaidR := saidGo l (l.length + 1) 0 []
/-- tokens with blanks between, and the end of a line -/
def saidT : List Token → List UInt8
  | [] => []
  | [t] => tokenText t ++ [13, 10]
  | t :: u :: ts => tokenText t ++ 32 :: saidT (u :: ts)
theorem said_back : ∀ (ts : List Token) (p q : List UInt8) (acc : List Token) (d : Nat), ts ≠ [] → (∀ t ∈ ts, goodTok t) → acc.length + ts.length ≤ 8 → (saidT ts).length ≤ d →
    saidGo (p ++ (saidT ts ++ q)) d p.length acc = (acc ++ ts, p.length + (saidT ts).length, 0)
  | [], _, _, _, _, h, _, _, _ => (h rfl).elim
  | [t], p, q, acc, d, _, hg, ha, hd => by
    have ht := hg t (List.mem_cons_self ..)
    have hp := tokenText_pos ht
    cases d with
    | zero => simp [saidT] at hd
    | succ d =>
      have e : (p ++ (saidT [t] ++ q)).drop p.length = tokenText t ++ 13 :: (10 :: q) := by rw [List.drop_left]; simp [saidT]
      have ek := token_back ht (c := 13) (by decide) (10 :: q)
      have e2 : (p ++ (saidT [t] ++ q)).drop (p.length + (tokenText t).length) = 13 :: 10 :: q := by
        rw [← List.drop_drop, e, List.drop_left]
      rw [saidGo, if_neg (by simp only [List.length_append, saidT]; omega), e, ek]
      simp only [ne_eq, not_true, if_false]
      rw [e2, if_neg (by simp), if_pos (by simp)]
      simp only [saidT, List.length_append, List.length_cons, List.length_nil]
      rw [Nat.add_assoc]
  | t :: u :: ts, p, q, acc, d, _, hg, ha, hd => by
    have ht := hg t (List.mem_cons_self ..)
    have hp := tokenText_pos ht
    cases d with
    | zero => simp [saidT] at hd
    | succ d =>
      have e : (p ++ (saidT (t :: u :: ts) ++ q)).drop p.length = tokenText t ++ 32 :: (saidT (u :: ts) ++ q) := by rw [List.drop_left]; simp [saidT]
      have ek := token_back ht (c := 32) (by decide) (saidT (u :: ts) ++ q)
      have e2 : (p ++ (saidT (t :: u :: ts) ++ q)).drop (p.length + (tokenText t).length) = 32 :: (saidT (u :: ts) ++ q) := by
        rw [← List.drop_drop, e, List.drop_left]
      simp only [List.length_cons] at ha
      have ih := said_back (u :: ts) (p ++ (tokenText t ++ [32])) q (acc ++ [t]) d (by simp) (fun x hx => hg x (List.mem_cons_of_mem _ hx)) (by simp; omega) (by simp only [saidT, List.length_append, List.length_cons] at hd; omega)
      have e3 : p ++ (saidT (t :: u :: ts) ++ q) = (p ++ (tokenText t ++ [32])) ++ (saidT (u :: ts) ++ q) := by simp [saidT]
      rw [saidGo, if_neg (by simp only [List.length_append, saidT, List.length_cons]; omega), e, ek]
      simp only [ne_eq, not_true, if_false]
      rw [e2, if_neg (by simp), if_neg (by simp), if_neg (by simp; omega), e3]
      have e4 : p.length + (tokenText t).length + 1 = (p ++ (tokenText t ++ [32])).length := by simp; omega
      rw [e4, ih]
      refine Prod.ext (by simp) (Prod.ext ?_ rfl)
      simp only [saidT, List.length_append, List.length_cons, List.length_nil]; omega
theorem said_cut : ∀ (ts : List Token) (p : List UInt8) (acc : List Token) (d k : Nat), ts ≠ [] → (∀ t ∈ ts, goodTok t) → acc.length + ts.length ≤ 8 → k < (saidT ts).length → k < d →
    saidGo (p ++ (saidT ts).take k) d p.length acc = ([], 0, 1)
  | [], _, _, _, _, h, _, _, _, _ => (h rfl).elim
  | t :: r, p, acc, d, k, _, hg, ha, hk, hd => by
    have ht := hg t (List.mem_cons_self ..)
    have hp := tokenText_pos ht
    obtain ⟨c, s, hs, hc, hr⟩ : ∃ c s, saidT (t :: r) = tokenText t ++ c :: s ∧ atomB c.toNat = false ∧ ((r = [] ∧ c = 13 ∧ s = [10]) ∨ (r ≠ [] ∧ c = 32 ∧ s = saidT r)) := by
      cases r with
      | nil => exact ⟨13, [10], rfl, by decide, .inl ⟨rfl, rfl, rfl⟩⟩
      | cons u r => exact ⟨32, _, rfl, by decide, .inr ⟨by simp, rfl, rfl⟩⟩
    rw [hs] at hk ⊢
    simp only [List.length_append, List.length_cons] at hk
    cases d with
    | zero => omega
    | succ d =>
      by_cases c0 : k = 0
      · subst c0
        rw [saidGo, if_pos (by simp)]
      have hd0 : ¬ (p ++ (tokenText t ++ c :: s).take k).length ≤ p.length := by simp; omega
      by_cases c1 : k < (tokenText t).length
      · have e : (p ++ (tokenText t ++ c :: s).take k).drop p.length = (tokenText t).take k := by rw [List.drop_left, List.take_append_of_le_length (by omega)]
        rw [saidGo, if_neg hd0, e, token_cut ht (by omega) c1, if_pos (by simp [tokMore])]
        rfl
      by_cases c2 : k = (tokenText t).length
      · have e : (p ++ (tokenText t ++ c :: s).take k).drop p.length = tokenText t := by rw [List.drop_left, c2, List.take_left]
        have e2 : (p ++ (tokenText t ++ c :: s).take k).drop (p.length + (tokenText t).length) = [] := by rw [← List.drop_drop, e, List.drop_length]
        rw [saidGo, if_neg hd0, e]
        rcases token_whole ht with z | z
        · rw [z, if_pos (by simp [tokMore])]; rfl
        · rw [z]
          simp only [ne_eq, not_true, if_false]
          rw [e2, if_pos (.inl rfl)]
      · obtain ⟨j, hj⟩ : ∃ j, k = (tokenText t).length + (j + 1) := ⟨k - (tokenText t).length - 1, by omega⟩
        have e0 : (tokenText t ++ c :: s).take k = tokenText t ++ c :: s.take j := by
          rw [hj, List.take_length_add_append, List.take_succ_cons]
        have e : (p ++ (tokenText t ++ c :: s).take k).drop p.length = tokenText t ++ c :: s.take j := by rw [List.drop_left, e0]
        have e2 : (p ++ (tokenText t ++ c :: s).take k).drop (p.length + (tokenText t).length) = c :: s.take j := by rw [← List.drop_drop, e, List.drop_left]
        rw [saidGo, if_neg hd0, e, token_back ht hc]
        simp only [ne_eq, not_true, if_false]
        rw [e2]
        rcases hr with ⟨r1, r2, r3⟩ | ⟨r1, r2, r3⟩
        · subst r2 r3
          simp only [List.length_cons, List.length_nil] at hk
          have : j = 0 := by omega
          subst this
          rw [if_pos (.inr rfl)]
        · subst r2 r3
          simp only [List.length_cons] at ha
          rw [if_neg (by simp), if_neg (by cases h : (saidT r).take j <;> simp), if_neg (by simp; cases r with | nil => exact (r1 rfl).elim | cons u r => simp only [List.length_cons] at ha; omega)]
          have e4 : p.length + (tokenText t).length + 1 = (p ++ (tokenText t ++ [32])).length := by simp; omega
          have e5 : p ++ (tokenText t ++ 32 :: saidT r).take k = (p ++ (tokenText t ++ [32])) ++ (saidT r).take j := by rw [e0]; simp
          rw [e4, e5]
          exact said_cut r (p ++ (tokenText t ++ [32])) (acc ++ [t]) d j r1 (fun x hx => hg x (List.mem_cons_of_mem _ hx)) (by simp; omega) (by omega) (by omega)
theorem said_full {ts : List Token} (h : ts ≠ []) (hg : ∀ t ∈ ts, goodTok t) (hl : ts.length ≤ 8) (q : List UInt8) : said (saidT ts ++ q) = (ts, (saidT ts).length, 0) := by
  have := said_back ts [] q [] ((saidT ts ++ q).length + 1) h hg (by simpa using hl) (by simp; omega)
  simpa [said] using this
theorem said_less {ts : List Token} (h : ts ≠ []) (hg : ∀ t ∈ ts, goodTok t) (hl : ts.length ≤ 8) {k : Nat} (hk : k < (saidT ts).length) : said ((saidT ts).take k) = ([], 0, 1) := by
  have := said_cut ts [] [] (((saidT ts).take k).length + 1) k h hg (by simpa using hl) hk (by simp; omega)
  simpa [said] using this
end Mx

namespace Mx
open Go
/-- a loop whose rounds are told by an invariant alone -/
theorem loop_ex {σ : Type} {f : St → Option (Out × St)} (S : σ → St) (Inv : σ → Prop) (μ : σ → Nat) (Post : Out × St → Prop)
    (h : ∀ s, Inv s → (∃ s', f (S s) = some (.normal, S s') ∧ Inv s' ∧ μ s' < μ s) ∨ (∃ r, f (S s) = some r ∧ r.1 ≠ .normal ∧ Post r)) :
    ∀ m s, Inv s → μ s < m → ∃ r, loopN f m (S s) = some r ∧ Post r
  | 0, s, _, hm => by omega
  | m + 1, s, hi, hm => by
    rcases h s hi with ⟨s', h1, h2, h3⟩ | ⟨⟨o, r⟩, h1, h2, h3⟩
    · obtain ⟨r, q1, q2⟩ := loop_ex S Inv μ Post h m s' h2 (by omega)
      exact ⟨r, by simp only [loopN, h1]; exact q1, q2⟩
    · refine ⟨(o, r), ?_, h3⟩
      simp only [loopN, h1]
      cases o with
      | normal => exact (h2 rfl).elim
      | _ => rfl
end Mx
