/-
  Loops that go through a list up to the first place of a kind.
-/
import Derived.Test.YtddgjibndegbaaaMxB
import Derived.Test.YtddgjibndegbaaaMxJg
import Derived.Sort.Row
import Derived.Sort.Grow
import Derived.Lib.SlicesCompact
set_option linter.unusedSimpArgs false
set_option linter.unusedVariables false
namespace Mx
open Go
/-- the first place from i on, of the d places there, of which p says yes -/
def firstF (p : Nat → Bool) : Nat → Nat → Option Nat
  | 0, _ => none
  | d + 1, i => if p i = true then some i else firstF p d (i + 1)
def firstN (p : Nat → Bool) (n : Nat) : Option Nat := firstF p n 0
theorem firstF_none (p : Nat → Bool) : ∀ d i, firstF p d i = none → ∀ j, i ≤ j → j < i + d → p j = false
  | 0, i, _, j, h1, h2 => by omega
  | d + 1, i, h, j, h1, h2 => by
    rw [firstF] at h
    split at h
    · cases h
    · by_cases e : j = i
      · subst e; simpa using ‹¬p j = true›
      · exact firstF_none p d (i + 1) h j (by omega) (by omega)
theorem firstF_some (p : Nat → Bool) : ∀ d i k, firstF p d i = some k → i ≤ k ∧ k < i + d ∧ p k = true ∧ ∀ j, i ≤ j → j < k → p j = false
  | d + 1, i, k, h => by
    rw [firstF] at h
    split at h
    · cases h
      exact ⟨by omega, by omega, ‹_›, fun j h1 h2 => by omega⟩
    · obtain ⟨h1, h2, h3, h4⟩ := firstF_some p d (i + 1) k h
      refine ⟨by omega, by omega, h3, fun j h5 h6 => ?_⟩
      by_cases e : j = i
      · subst e; simpa using ‹¬p j = true›
      · exact h4 j (by omega) h6
theorem firstN_none {p : Nat → Bool} {n : Nat} (h : firstN p n = none) : ∀ j, j < n → p j = false := fun j hj => firstF_none p n 0 h j (by omega) (by omega)
theorem firstN_some {p : Nat → Bool} {n k : Nat} (h : firstN p n = some k) : k < n ∧ p k = true ∧ ∀ j, j < k → p j = false := by
  obtain ⟨_, h2, h3, h4⟩ := firstF_some p n 0 k h
  exact ⟨by omega, h3, fun j hj => h4 j (by omega) hj⟩
theorem firstN_isNone {p : Nat → Bool} {n : Nat} : firstN p n = none ↔ ∀ j, j < n → p j = false := by
  refine ⟨firstN_none, fun h => ?_⟩
  cases q : firstN p n with
  | none => rfl
  | some k =>
    obtain ⟨h1, h2, _⟩ := firstN_some q
    rw [h k h1] at h2; cases h2
theorem firstN_eq {p : Nat → Bool} {n k : Nat} (h1 : k < n) (h2 : p k = true) (h3 : ∀ j, j < k → p j = false) : firstN p n = some k := by
  cases q : firstN p n with
  | none => rw [firstN_none q k h1] at h2; cases h2
  | some i =>
    obtain ⟨q1, q2, q3⟩ := firstN_some q
    by_cases e : i < k
    · rw [h3 i e] at q2; cases q2
    · by_cases e' : k < i
      · rw [q3 k e'] at h2; cases h2
      · rw [show i = k by omega]
theorem first_loop {γ β : Type} (n : Nat) (p : Nat → Bool) {f : St → Option (Out × St)} (S : Nat → β → St) (fin : Option Nat → γ → Out × St) (hfin : ∀ q m, (fin q m).1 ≠ .normal)
    (h1 : ∀ i, i < n → ∀ x, p i = false → ∃ y, f (S i x) = some (.normal, S (i + 1) y)) (h2 : ∀ i, i < n → ∀ x, p i = true → ∃ m, f (S i x) = some (fin (some i) m))
    (h3 : ∀ x, ∃ m, f (S n x) = some (fin none m)) : ∃ g : β → γ, ∀ x, loopN f (n + 1) (S 0 x) = some (fin (firstN p n) (g x)) := by
  refine loop_all (f := f) S (fun i => i ≤ n) (fun i => n - i) (fun i => firstF p (n - i) i) fin ?_ (n + 1) 0 (Nat.zero_le _) (by omega)
  intro i x hi
  by_cases hlt : i < n
  · have hd : n - i = (n - (i + 1)) + 1 := by omega
    have hg : firstF p (n - i) i = if p i = true then some i else firstF p (n - (i + 1)) (i + 1) := by rw [hd, firstF]
    simp only [hg]
    by_cases c : p i = true
    · right
      obtain ⟨m, hm⟩ := h2 i hlt x c
      rw [if_pos c]
      exact ⟨m, hm, hfin _ _⟩
    · left
      obtain ⟨y, hy⟩ := h1 i hlt x (by simpa using c)
      rw [if_neg c]
      exact ⟨i + 1, y, hy, hlt, by omega, rfl⟩
  · have : i = n := by omega
    subst this
    right
    obtain ⟨m, hm⟩ := h3 x
    simp only [Nat.sub_self, firstF]
    exact ⟨m, hm, hfin _ _⟩
theorem loopN_le {f : St → Option (Out × St)} {n m : Nat} {s : St} {r : Out × St} (h : loopN f n s = some r) (hm : n ≤ m) : loopN f m s = some r := loopN_mono (fun _ _ h => h) hm h
/-- a loop that answers w at the first place found, and goes on behind itself if there is none -/
def fin1 {β : Type} (r : Nat) (w : T) (e : Nat) (E : β → St) (q : Option Nat) (m : β × Nat) : Out × St := match q with
  | none => (.exit e, E m.1)
  | some _ => (.ret, { t := [(r, .c w)], o := [], n := m.2 })
theorem early_loop {β : Type} (n : Nat) (p : Nat → Bool) {f : St → Option (Out × St)} (S : Nat → β → St) (r : Nat) (w : T) (e : Nat) (E : β → St)
    (h1 : ∀ i, i < n → ∀ x, p i = false → ∃ y, f (S i x) = some (.normal, S (i + 1) y)) (h2 : ∀ i, i < n → ∀ x, p i = true → ∃ k, f (S i x) = some (.ret, { t := [(r, .c w)], o := [], n := k }))
    (h3 : ∀ x, ∃ y, f (S n x) = some (.exit e, E y)) : ∃ g : β → β × Nat, ∀ x, loopN f (n + 1) (S 0 x) = some (fin1 r w e E (firstN p n) (g x)) :=
  first_loop n p S (fin1 r w e E) (fun q m => by cases q <;> simp [fin1]) h1 (fun i hi x c => by
    obtain ⟨k, hk⟩ := h2 i hi x c
    exact ⟨(x, k), hk⟩) (fun x => by
    obtain ⟨y, hy⟩ := h3 x
    exact ⟨(y, 0), hy⟩)
/-- a loop that goes through a whole list with what it has so far -/
theorem fold_loop {α σ β γ : Type} (l : List α) (step : σ → α → σ) (Inv : Nat → σ → Prop) {f : St → Option (Out × St)} (S : Nat → σ → β → St) (e : Nat) (E : σ → γ → St)
    (hI : ∀ i (h : i < l.length) s, Inv i s → Inv (i + 1) (step s l[i]))
    (h1 : ∀ i (h : i < l.length) s x, Inv i s → ∃ y, f (S i s x) = some (.normal, S (i + 1) (step s l[i]) y))
    (h3 : ∀ s x, Inv l.length s → ∃ y, f (S l.length s x) = some (.exit e, E s y)) (s : σ) (h0 : Inv 0 s) :
    ∃ g : β → γ, ∀ x, loopN f (l.length + 1) (S 0 s x) = some (.exit e, E (l.foldl step s) (g x)) := by
  refine loop_all (f := f) (fun p : Nat × σ => S p.1 p.2) (fun p => p.1 ≤ l.length ∧ Inv p.1 p.2) (fun p => l.length - p.1) (fun p => (l.drop p.1).foldl step p.2) (fun q m => (.exit e, E q m)) ?_ (l.length + 1) (0, s) ⟨Nat.zero_le _, h0⟩ (by simp)
  rintro ⟨i, s⟩ x ⟨hi, hs⟩
  simp only at hi hs
  by_cases hlt : i < l.length
  · left
    obtain ⟨y, hy⟩ := h1 i hlt s x hs
    refine ⟨(i + 1, step s l[i]), y, hy, ⟨hlt, hI i hlt s hs⟩, by simp only; omega, ?_⟩
    simp only
    rw [List.drop_eq_getElem_cons hlt, List.foldl_cons]
  · have : i = l.length := by omega
    subst this
    right
    obtain ⟨y, hy⟩ := h3 s x hs
    exact ⟨y, by simp [hy], by simp⟩
theorem foldl_inv {α σ : Type} (l : List α) (step : σ → α → σ) (Inv : Nat → σ → Prop) (hI : ∀ i (h : i < l.length) s, Inv i s → Inv (i + 1) (step s l[i])) : ∀ s, Inv 0 s → Inv l.length (l.foldl step s) := by
  have key : ∀ d i s, i + d = l.length → Inv i s → Inv l.length ((l.drop i).foldl step s) := by
    intro d
    induction d with
    | zero => intro i s hi h; have : i = l.length := by omega
              subst this; simpa using h
    | succ d ih =>
      intro i s hi h
      have hlt : i < l.length := by omega
      rw [List.drop_eq_getElem_cons hlt, List.foldl_cons]
      exact ih (i + 1) _ (by omega) (hI i hlt s h)
  intro s h
  simpa using key l.length 0 s (by omega) h
/-- texts one behind the other -/
def texts {α : Type} (t : α → List UInt8) (l : List α) : List UInt8 := l.flatMap t
theorem texts_fold {α : Type} (t : α → List UInt8) (l : List α) (s : List UInt8) : l.foldl (fun s x => s ++ t x) s = s ++ texts t l := by
  induction l generalizing s with
  | nil => simp [texts]
  | cons x l ih => simp [ih, texts, List.flatMap_cons]
theorem texts_len {α : Type} (t : α → List UInt8) (l : List α) (c : Nat) (h : ∀ x ∈ l, (t x).length ≤ c) : (texts t l).length ≤ l.length * c := by
  induction l with
  | nil => simp [texts]
  | cons x l ih =>
    have h1 := ih fun y hy => h y (List.mem_cons_of_mem _ hy)
    have h2 := h x (List.mem_cons_self ..)
    simp only [texts, List.flatMap_cons, List.length_append, List.length_cons] at h1 ⊢
    have : (l.length + 1) * c = l.length * c + c := Nat.succ_mul _ _
    omega
/-- a loop that puts texts behind a text -/
theorem text_loop {α β γ : Type} (l : List α) (t : α → List UInt8) (c a : Nat) (hc : ∀ x ∈ l, (t x).length ≤ c) {f : St → Option (Out × St)} (S : Nat → List UInt8 → β → St) (e : Nat) (E : List UInt8 → γ → St)
    (h1 : ∀ i (h : i < l.length) s x, s.length ≤ a + i * c → ∃ y, f (S i s x) = some (.normal, S (i + 1) (s ++ t l[i]) y))
    (h3 : ∀ s x, ∃ y, f (S l.length s x) = some (.exit e, E s y)) (s : List UInt8) (h0 : s.length ≤ a) :
    ∃ g : β → γ, ∀ x, loopN f (l.length + 1) (S 0 s x) = some (.exit e, E (s ++ texts t l) (g x)) := by
  have := fold_loop l (fun s x => s ++ t x) (fun i s => s.length ≤ a + i * c) S e E (fun i h s hs => by
    have h2 := hc _ (List.getElem_mem h)
    have : (i + 1) * c = i * c + c := Nat.succ_mul _ _
    simp only [List.length_append]; omega) h1 (fun s x _ => h3 s x) s (by simpa using h0)
  simpa only [texts_fold] using this
end Mx

/-
  Small codes: impl.StampOk, spec.StampOk, impl.RegOk, spec.RegOk, impl.FlagsOk, spec.FlagsOk, impl.isGid, impl.MailOk, spec.MailOk, impl.NameOk, spec.NameOk, impl.areGids, spec.l06Sorted, spec.l06In, slices.Index[[]int,int], slices.Contains[[]int,int], impl.BoxOk, spec.BoxOk, impl.MailText, spec.MailText, impl.boxText, impl.BoxText, spec.BoxText, laws.FnExactBoxText.
-/
namespace Mx
open Go
def impl_StampOk.b : C := .seq (.reg [⟨some 1, .box (.t 0), none⟩,
    ⟨some 2, .mv (.k (.bool false)), none⟩] [1] [1])
  (.seq (.reg [⟨some 3, .faddr 0 (.t 1), none⟩,
    ⟨some 4, .load false 1 (.t 3), none⟩,
    ⟨some 5, .call 101 [.t 4, .k (.int .i64 0), .k (.int .i64 100000)] [] [], none⟩,
    ⟨some 6, .mv (.t 5), none⟩,
    ⟨some 7, .faddr 1 (.t 1), some (6, true)⟩,
    ⟨some 8, .load false 1 (.t 7), some (6, true)⟩,
    ⟨some 9, .call 101 [.t 8, .k (.int .i64 0), .k (.int .i64 2)] [] [], some (6, true)⟩,
    ⟨some 10, .pick (.t 6) (.t 9) (.k (.bool false)), none⟩,
    ⟨some 2, .mv (.t 10), none⟩] [2] [])
  (.ret))
def impl_StampOk.m : Fn := { np := 1, body := impl_StampOk.b, res := [.tmp 2] }
def impl_StampOk.k (M : Nat → Option Body) : Prop := M 164 = some (.code impl_StampOk.m) ∧ impl_within.k M
def spec_StampOk.b : C := .seq (.reg [⟨some 1, .box (.t 0), none⟩,
    ⟨some 2, .mv (.k (.bool false)), none⟩] [1] [1])
  (.seq (.reg [⟨some 3, .faddr 0 (.t 1), none⟩,
    ⟨some 4, .load false 1 (.t 3), none⟩,
    ⟨some 5, .call 98 [.t 4, .k (.int .i64 0), .k (.int .i64 100000)] [] [], none⟩,
    ⟨some 6, .mv (.t 5), none⟩,
    ⟨some 7, .faddr 1 (.t 1), some (6, true)⟩,
    ⟨some 8, .load false 1 (.t 7), some (6, true)⟩,
    ⟨some 9, .call 98 [.t 8, .k (.int .i64 0), .k (.int .i64 2)] [] [], some (6, true)⟩,
    ⟨some 10, .pick (.t 6) (.t 9) (.k (.bool false)), none⟩,
    ⟨some 2, .mv (.t 10), none⟩] [2] [])
  (.ret))
def spec_StampOk.m : Fn := { np := 1, body := spec_StampOk.b, res := [.tmp 2] }
def spec_StampOk.k (M : Nat → Option Body) : Prop := M 183 = some (.code spec_StampOk.m) ∧ spec_l01In.k M
def impl_RegOk.b : C := .seq (.reg [⟨some 1, .box (.t 0), none⟩,
    ⟨some 2, .mv (.k (.bool false)), none⟩] [1] [1])
  (.seq (.reg [⟨some 3, .faddr 1 (.t 1), none⟩,
    ⟨some 4, .load true 2 (.t 3), none⟩,
    ⟨some 5, .call 164 [.t 4] [] [], none⟩,
    ⟨some 6, .mv (.t 5), none⟩,
    ⟨some 7, .faddr 0 (.t 1), some (6, true)⟩,
    ⟨some 8, .load false 1 (.t 7), some (6, true)⟩,
    ⟨some 9, .call 101 [.t 8, .k (.int .i64 0), .k (.int .i64 1000000000)] [] [], some (6, true)⟩,
    ⟨some 10, .pick (.t 6) (.t 9) (.k (.bool false)), none⟩,
    ⟨some 2, .mv (.t 10), none⟩] [2] [])
  (.ret))
def impl_RegOk.m : Fn := { np := 1, body := impl_RegOk.b, res := [.tmp 2] }
def impl_RegOk.k (M : Nat → Option Body) : Prop := M 272 = some (.code impl_RegOk.m) ∧ impl_within.k M ∧ impl_StampOk.k M
def spec_RegOk.b : C := .seq (.reg [⟨some 1, .box (.t 0), none⟩,
    ⟨some 2, .mv (.k (.bool false)), none⟩] [1] [1])
  (.seq (.reg [⟨some 3, .faddr 1 (.t 1), none⟩,
    ⟨some 4, .load true 2 (.t 3), none⟩,
    ⟨some 5, .call 183 [.t 4] [] [], none⟩,
    ⟨some 6, .mv (.t 5), none⟩,
    ⟨some 7, .faddr 0 (.t 1), some (6, true)⟩,
    ⟨some 8, .load false 1 (.t 7), some (6, true)⟩,
    ⟨some 9, .call 98 [.t 8, .k (.int .i64 0), .k (.int .i64 1000000000)] [] [], some (6, true)⟩,
    ⟨some 10, .pick (.t 6) (.t 9) (.k (.bool false)), none⟩,
    ⟨some 2, .mv (.t 10), none⟩] [2] [])
  (.ret))
def spec_RegOk.m : Fn := { np := 1, body := spec_RegOk.b, res := [.tmp 2] }
def spec_RegOk.k (M : Nat → Option Body) : Prop := M 276 = some (.code spec_RegOk.m) ∧ spec_l01In.k M ∧ spec_StampOk.k M
def impl_FlagsOk.l0 : C := .seq (.reg [⟨some 8, .bin .lss (.t 7) (.t 6), none⟩] [0, 5, 6, 7, 8] [])
  (.seq (.cond (.t 8) (.skip) (.exit 0))
  (.seq (.block 1 (.seq (.reg [⟨some 9, .iaddr 3 (.t 5) (.t 7), none⟩,
    ⟨some 10, .load true 3 (.t 9), none⟩,
    ⟨some 4, .alloc [.int .i64 0, .int .i64 0, .int .i64 0], none⟩,
    ⟨none, .store 3 (.t 4) (.t 10), none⟩] [0, 4, 5, 6, 7] [4])
  (.seq (.reg [⟨some 11, .load true 3 (.t 4), none⟩,
    ⟨some 12, .call 272 [.t 11] [] [], none⟩,
    ⟨some 13, .not (.t 12), none⟩,
    ⟨some 14, .mv (.t 13), none⟩,
    ⟨some 15, .faddr 0 (.t 4), some (14, false)⟩,
    ⟨some 16, .load false 1 (.t 15), some (14, false)⟩,
    ⟨some 17, .bin .gtr (.t 16) (.k (.int .i64 1)), some (14, false)⟩,
    ⟨some 18, .pick (.t 14) (.k (.bool true)) (.t 17), none⟩] [0, 5, 6, 7, 18] [])
  (.cond (.t 18) (.seq (.reg [⟨some 2, .mv (.k (.bool false)), none⟩] [2] [])
  (.ret)) (.skip)))))
  (.reg [⟨some 19, .bin .add (.t 7) (.k (.int .i64 1)), none⟩,
    ⟨some 7, .mv (.t 19), none⟩] [0, 5, 6, 7] [])))
def impl_FlagsOk.b : C := .seq (.reg [⟨some 2, .mv (.k (.bool false)), none⟩] [0] [])
  (.seq (.seq (.reg [⟨some 5, .mv (.t 0), none⟩,
    ⟨some 6, .len (.t 5), none⟩,
    ⟨some 7, .mv (.k (.int .i64 0)), none⟩] [0, 5, 6, 7] [])
  (.block 0 (.loop impl_FlagsOk.l0)))
  (.seq (.reg [⟨some 20, .mv (.t 0), none⟩,
    ⟨some 21, .len (.t 20), none⟩,
    ⟨some 22, .bin .eql (.t 21) (.k (.int .i64 3)), none⟩,
    ⟨some 2, .mv (.t 22), none⟩] [2] [])
  (.ret)))
def impl_FlagsOk.m : Fn := { np := 1, body := impl_FlagsOk.b, res := [.tmp 2] }
def impl_FlagsOk.k (M : Nat → Option Body) : Prop := M 235 = some (.code impl_FlagsOk.m) ∧ impl_RegOk.k M
def spec_FlagsOk.l0 : C := .seq (.seq (.reg [⟨some 4, .mv (.t 3), none⟩,
    ⟨some 5, .mv (.t 0), none⟩,
    ⟨some 6, .len (.t 5), none⟩,
    ⟨some 7, .bin .lss (.t 4) (.t 6), none⟩] [0, 3, 7] [])
  (.cond (.t 7) (.skip) (.exit 0)))
  (.seq (.block 1 (.seq (.reg [⟨some 10, .mv (.t 0), none⟩,
    ⟨some 11, .mv (.t 3), none⟩,
    ⟨some 12, .iaddr 3 (.t 10) (.t 11), none⟩,
    ⟨some 13, .load true 3 (.t 12), none⟩,
    ⟨some 14, .call 276 [.t 13] [] [], none⟩,
    ⟨some 15, .not (.t 14), none⟩,
    ⟨some 16, .mv (.t 15), none⟩,
    ⟨some 17, .mv (.t 0), some (16, false)⟩,
    ⟨some 18, .mv (.t 3), some (16, false)⟩,
    ⟨some 19, .iaddr 3 (.t 17) (.t 18), some (16, false)⟩,
    ⟨some 20, .faddr 0 (.t 19), some (16, false)⟩,
    ⟨some 21, .load false 1 (.t 20), some (16, false)⟩,
    ⟨some 22, .bin .gtr (.t 21) (.k (.int .i64 1)), some (16, false)⟩,
    ⟨some 23, .pick (.t 16) (.k (.bool true)) (.t 22), none⟩] [0, 3, 23] [])
  (.cond (.t 23) (.seq (.reg [⟨some 2, .mv (.k (.bool false)), none⟩] [2] [])
  (.ret)) (.skip))))
  (.reg [⟨some 8, .mv (.t 3), none⟩,
    ⟨some 9, .bin .add (.t 8) (.k (.int .i64 1)), none⟩,
    ⟨some 3, .mv (.t 9), none⟩] [0, 3] []))
def spec_FlagsOk.b : C := .seq (.reg [⟨some 2, .mv (.k (.bool false)), none⟩] [0] [])
  (.seq (.seq (.reg [⟨some 3, .mv (.k (.int .i64 0)), none⟩] [0, 3] [])
  (.block 0 (.loop spec_FlagsOk.l0)))
  (.seq (.reg [⟨some 24, .mv (.t 0), none⟩,
    ⟨some 25, .len (.t 24), none⟩,
    ⟨some 26, .bin .eql (.t 25) (.k (.int .i64 3)), none⟩,
    ⟨some 2, .mv (.t 26), none⟩] [2] [])
  (.ret)))
def spec_FlagsOk.m : Fn := { np := 1, body := spec_FlagsOk.b, res := [.tmp 2] }
def spec_FlagsOk.k (M : Nat → Option Body) : Prop := M 242 = some (.code spec_FlagsOk.m) ∧ spec_RegOk.k M
def impl_isGid.b : C := .seq (.reg [⟨some 2, .mv (.k (.bool false)), none⟩] [0] [])
  (.seq (.reg [⟨some 3, .mv (.t 0), none⟩,
    ⟨some 4, .call 101 [.t 3, .k (.int .i64 1), .k (.int .i64 9999)] [] [], none⟩,
    ⟨some 2, .mv (.t 4), none⟩] [2] [])
  (.ret))
def impl_isGid.m : Fn := { np := 1, body := impl_isGid.b, res := [.tmp 2] }
def impl_isGid.k (M : Nat → Option Body) : Prop := M 147 = some (.code impl_isGid.m) ∧ impl_within.k M
def impl_MailOk.b : C := .seq (.reg [⟨some 1, .box (.t 0), none⟩,
    ⟨some 2, .mv (.k (.bool false)), none⟩] [1] [1])
  (.seq (.reg [⟨some 3, .faddr 0 (.t 1), none⟩,
    ⟨some 4, .load false 1 (.t 3), none⟩,
    ⟨some 5, .call 147 [.t 4] [] [], none⟩,
    ⟨some 6, .mv (.t 5), none⟩,
    ⟨some 7, .faddr 1 (.t 1), some (6, true)⟩,
    ⟨some 8, .load false 1 (.t 7), some (6, true)⟩,
    ⟨some 9, .call 147 [.t 8] [] [], some (6, true)⟩,
    ⟨some 10, .pick (.t 6) (.t 9) (.k (.bool false)), none⟩,
    ⟨some 11, .mv (.t 10), none⟩,
    ⟨some 12, .faddr 2 (.t 1), some (11, true)⟩,
    ⟨some 13, .load false 1 (.t 12), some (11, true)⟩,
    ⟨some 14, .call 235 [.t 13] [] [], some (11, true)⟩,
    ⟨some 15, .pick (.t 11) (.t 14) (.k (.bool false)), none⟩,
    ⟨some 16, .mv (.t 15), none⟩,
    ⟨some 17, .faddr 3 (.t 1), some (16, true)⟩,
    ⟨some 18, .load false 1 (.t 17), some (16, true)⟩,
    ⟨some 19, .slen (.t 18), some (16, true)⟩,
    ⟨some 20, .bin .leq (.t 19) (.k (.int .i64 60)), some (16, true)⟩,
    ⟨some 21, .pick (.t 16) (.t 20) (.k (.bool false)), none⟩,
    ⟨some 2, .mv (.t 21), none⟩] [2] [])
  (.ret))
def impl_MailOk.m : Fn := { np := 1, body := impl_MailOk.b, res := [.tmp 2] }
def impl_MailOk.k (M : Nat → Option Body) : Prop := M 166 = some (.code impl_MailOk.m) ∧ impl_isGid.k M ∧ impl_FlagsOk.k M
def spec_MailOk.b : C := .seq (.reg [⟨some 1, .box (.t 0), none⟩,
    ⟨some 2, .mv (.k (.bool false)), none⟩] [1] [1])
  (.seq (.reg [⟨some 3, .faddr 0 (.t 1), none⟩,
    ⟨some 4, .load false 1 (.t 3), none⟩,
    ⟨some 5, .call 98 [.t 4, .k (.int .i64 1), .k (.int .i64 9999)] [] [], none⟩,
    ⟨some 6, .mv (.t 5), none⟩,
    ⟨some 7, .faddr 1 (.t 1), some (6, true)⟩,
    ⟨some 8, .load false 1 (.t 7), some (6, true)⟩,
    ⟨some 9, .call 98 [.t 8, .k (.int .i64 1), .k (.int .i64 9999)] [] [], some (6, true)⟩,
    ⟨some 10, .pick (.t 6) (.t 9) (.k (.bool false)), none⟩,
    ⟨some 11, .mv (.t 10), none⟩,
    ⟨some 12, .faddr 2 (.t 1), some (11, true)⟩,
    ⟨some 13, .load false 1 (.t 12), some (11, true)⟩,
    ⟨some 14, .call 242 [.t 13] [] [], some (11, true)⟩,
    ⟨some 15, .pick (.t 11) (.t 14) (.k (.bool false)), none⟩,
    ⟨some 16, .mv (.t 15), none⟩,
    ⟨some 17, .faddr 3 (.t 1), some (16, true)⟩,
    ⟨some 18, .load false 1 (.t 17), some (16, true)⟩,
    ⟨some 19, .slen (.t 18), some (16, true)⟩,
    ⟨some 20, .bin .leq (.t 19) (.k (.int .i64 60)), some (16, true)⟩,
    ⟨some 21, .pick (.t 16) (.t 20) (.k (.bool false)), none⟩,
    ⟨some 2, .mv (.t 21), none⟩] [2] [])
  (.ret))
def spec_MailOk.m : Fn := { np := 1, body := spec_MailOk.b, res := [.tmp 2] }
def spec_MailOk.k (M : Nat → Option Body) : Prop := M 187 = some (.code spec_MailOk.m) ∧ spec_l01In.k M ∧ spec_FlagsOk.k M
def impl_NameOk.l0 : C := .seq (.seq (.reg [⟨some 4, .mv (.t 3), none⟩,
    ⟨some 5, .mv (.t 0), none⟩,
    ⟨some 6, .slen (.t 5), none⟩,
    ⟨some 7, .bin .lss (.t 4) (.t 6), none⟩] [0, 3, 7] [])
  (.cond (.t 7) (.skip) (.exit 0)))
  (.seq (.block 1 (.seq (.reg [⟨some 10, .mv (.t 0), none⟩,
    ⟨some 11, .mv (.t 3), none⟩,
    ⟨some 12, .idx (.t 10) (.t 11), none⟩,
    ⟨some 13, .bin .lss (.t 12) (.k (.int .u8 97)), none⟩,
    ⟨some 14, .mv (.t 13), none⟩,
    ⟨some 15, .mv (.t 0), some (14, false)⟩,
    ⟨some 16, .mv (.t 3), some (14, false)⟩,
    ⟨some 17, .idx (.t 15) (.t 16), some (14, false)⟩,
    ⟨some 18, .bin .gtr (.t 17) (.k (.int .u8 122)), some (14, false)⟩,
    ⟨some 19, .pick (.t 14) (.k (.bool true)) (.t 18), none⟩,
    ⟨some 20, .mv (.t 19), none⟩,
    ⟨some 21, .mv (.t 0), some (20, true)⟩,
    ⟨some 22, .mv (.t 3), some (20, true)⟩,
    ⟨some 23, .idx (.t 21) (.t 22), some (20, true)⟩,
    ⟨some 24, .bin .lss (.t 23) (.k (.int .u8 48)), some (20, true)⟩,
    ⟨some 25, .mv (.t 24), some (20, true)⟩,
    ⟨some 26, .mv (.t 0), some (25, false)⟩,
    ⟨some 27, .mv (.t 3), some (25, false)⟩,
    ⟨some 28, .idx (.t 26) (.t 27), some (25, false)⟩,
    ⟨some 29, .bin .gtr (.t 28) (.k (.int .u8 57)), some (25, false)⟩,
    ⟨some 30, .pick (.t 25) (.k (.bool true)) (.t 29), some (20, true)⟩,
    ⟨some 31, .pick (.t 20) (.t 30) (.k (.bool false)), none⟩] [0, 3, 31] [])
  (.cond (.t 31) (.seq (.reg [⟨some 2, .mv (.k (.bool false)), none⟩] [2] [])
  (.ret)) (.skip))))
  (.reg [⟨some 8, .mv (.t 3), none⟩,
    ⟨some 9, .bin .add (.t 8) (.k (.int .i64 1)), none⟩,
    ⟨some 3, .mv (.t 9), none⟩] [0, 3] []))
def impl_NameOk.b : C := .seq (.reg [⟨some 2, .mv (.k (.bool false)), none⟩] [0] [])
  (.seq (.seq (.reg [⟨some 3, .mv (.k (.int .i64 0)), none⟩] [0, 3] [])
  (.block 0 (.loop impl_NameOk.l0)))
  (.seq (.reg [⟨some 32, .mv (.t 0), none⟩,
    ⟨some 33, .slen (.t 32), none⟩,
    ⟨some 34, .call 101 [.t 33, .k (.int .i64 1), .k (.int .i64 12)] [] [], none⟩,
    ⟨some 2, .mv (.t 34), none⟩] [2] [])
  (.ret)))
def impl_NameOk.m : Fn := { np := 1, body := impl_NameOk.b, res := [.tmp 2] }
def impl_NameOk.k (M : Nat → Option Body) : Prop := M 89 = some (.code impl_NameOk.m) ∧ impl_within.k M
def spec_NameOk.l0 : C := .seq (.seq (.reg [⟨some 4, .mv (.t 3), none⟩,
    ⟨some 5, .mv (.t 0), none⟩,
    ⟨some 6, .slen (.t 5), none⟩,
    ⟨some 7, .bin .lss (.t 4) (.t 6), none⟩] [0, 3, 7] [])
  (.cond (.t 7) (.skip) (.exit 0)))
  (.seq (.block 1 (.seq (.reg [⟨some 10, .mv (.t 0), none⟩,
    ⟨some 11, .mv (.t 3), none⟩,
    ⟨some 12, .idx (.t 10) (.t 11), none⟩,
    ⟨some 13, .bin .lss (.t 12) (.k (.int .u8 97)), none⟩,
    ⟨some 14, .mv (.t 13), none⟩,
    ⟨some 15, .mv (.t 0), some (14, false)⟩,
    ⟨some 16, .mv (.t 3), some (14, false)⟩,
    ⟨some 17, .idx (.t 15) (.t 16), some (14, false)⟩,
    ⟨some 18, .bin .gtr (.t 17) (.k (.int .u8 122)), some (14, false)⟩,
    ⟨some 19, .pick (.t 14) (.k (.bool true)) (.t 18), none⟩,
    ⟨some 20, .mv (.t 19), none⟩,
    ⟨some 21, .mv (.t 0), some (20, true)⟩,
    ⟨some 22, .mv (.t 3), some (20, true)⟩,
    ⟨some 23, .idx (.t 21) (.t 22), some (20, true)⟩,
    ⟨some 24, .bin .lss (.t 23) (.k (.int .u8 48)), some (20, true)⟩,
    ⟨some 25, .mv (.t 24), some (20, true)⟩,
    ⟨some 26, .mv (.t 0), some (25, false)⟩,
    ⟨some 27, .mv (.t 3), some (25, false)⟩,
    ⟨some 28, .idx (.t 26) (.t 27), some (25, false)⟩,
    ⟨some 29, .bin .gtr (.t 28) (.k (.int .u8 57)), some (25, false)⟩,
    ⟨some 30, .pick (.t 25) (.k (.bool true)) (.t 29), some (20, true)⟩,
    ⟨some 31, .pick (.t 20) (.t 30) (.k (.bool false)), none⟩] [0, 3, 31] [])
  (.cond (.t 31) (.seq (.reg [⟨some 2, .mv (.k (.bool false)), none⟩] [2] [])
  (.ret)) (.skip))))
  (.reg [⟨some 8, .mv (.t 3), none⟩,
    ⟨some 9, .bin .add (.t 8) (.k (.int .i64 1)), none⟩,
    ⟨some 3, .mv (.t 9), none⟩] [0, 3] []))
def spec_NameOk.b : C := .seq (.reg [⟨some 2, .mv (.k (.bool false)), none⟩] [0] [])
  (.seq (.seq (.reg [⟨some 3, .mv (.k (.int .i64 0)), none⟩] [0, 3] [])
  (.block 0 (.loop spec_NameOk.l0)))
  (.seq (.reg [⟨some 32, .mv (.t 0), none⟩,
    ⟨some 33, .slen (.t 32), none⟩,
    ⟨some 34, .call 98 [.t 33, .k (.int .i64 1), .k (.int .i64 12)] [] [], none⟩,
    ⟨some 2, .mv (.t 34), none⟩] [2] [])
  (.ret)))
def spec_NameOk.m : Fn := { np := 1, body := spec_NameOk.b, res := [.tmp 2] }
def spec_NameOk.k (M : Nat → Option Body) : Prop := M 90 = some (.code spec_NameOk.m) ∧ spec_l01In.k M
def impl_areGids.l0 : C := .seq (.reg [⟨some 10, .bin .lss (.t 9) (.t 8), none⟩] [0, 1, 7, 8, 9, 10] [])
  (.seq (.cond (.t 10) (.skip) (.exit 0))
  (.seq (.block 1 (.seq (.reg [⟨some 11, .mv (.t 9), none⟩,
    ⟨some 12, .iaddr 1 (.t 7) (.t 9), none⟩,
    ⟨some 13, .load false 1 (.t 12), none⟩,
    ⟨some 5, .mv (.t 11), none⟩,
    ⟨some 6, .mv (.t 13), none⟩] [0, 1, 5, 6, 7, 8, 9] [])
  (.seq (.reg [⟨some 14, .mv (.t 6), none⟩,
    ⟨some 15, .call 147 [.t 14] [] [], none⟩,
    ⟨some 16, .not (.t 15), none⟩,
    ⟨some 17, .mv (.t 16), none⟩,
    ⟨some 18, .mv (.t 5), some (17, false)⟩,
    ⟨some 19, .bin .gtr (.t 18) (.k (.int .i64 0)), some (17, false)⟩,
    ⟨some 20, .mv (.t 19), some (17, false)⟩,
    ⟨some 21, .mv (.t 0), some (20, true)⟩,
    ⟨some 22, .mv (.t 5), some (20, true)⟩,
    ⟨some 23, .bin .sub (.t 22) (.k (.int .i64 1)), some (20, true)⟩,
    ⟨some 24, .iaddr 1 (.t 21) (.t 23), some (20, true)⟩,
    ⟨some 25, .load false 1 (.t 24), some (20, true)⟩,
    ⟨some 26, .mv (.t 6), some (20, true)⟩,
    ⟨some 27, .bin .geq (.t 25) (.t 26), some (20, true)⟩,
    ⟨some 28, .pick (.t 20) (.t 27) (.k (.bool false)), some (17, false)⟩,
    ⟨some 29, .pick (.t 17) (.k (.bool true)) (.t 28), none⟩] [0, 1, 7, 8, 9, 29] [])
  (.cond (.t 29) (.seq (.reg [⟨some 4, .mv (.k (.bool false)), none⟩] [4] [])
  (.ret)) (.skip)))))
  (.reg [⟨some 30, .bin .add (.t 9) (.k (.int .i64 1)), none⟩,
    ⟨some 9, .mv (.t 30), none⟩] [0, 1, 7, 8, 9] [])))
def impl_areGids.b : C := .seq (.reg [⟨some 4, .mv (.k (.bool false)), none⟩] [0, 1] [])
  (.seq (.seq (.reg [⟨some 7, .mv (.t 0), none⟩,
    ⟨some 8, .len (.t 7), none⟩,
    ⟨some 9, .mv (.k (.int .i64 0)), none⟩] [0, 1, 7, 8, 9] [])
  (.block 0 (.loop impl_areGids.l0)))
  (.seq (.reg [⟨some 31, .mv (.t 0), none⟩,
    ⟨some 32, .len (.t 31), none⟩,
    ⟨some 33, .mv (.t 1), none⟩,
    ⟨some 34, .bin .leq (.t 32) (.t 33), none⟩,
    ⟨some 4, .mv (.t 34), none⟩] [4] [])
  (.ret)))
def impl_areGids.m : Fn := { np := 2, body := impl_areGids.b, res := [.tmp 4] }
def impl_areGids.k (M : Nat → Option Body) : Prop := M 165 = some (.code impl_areGids.m) ∧ impl_isGid.k M
def spec_l06Sorted.l0 : C := .seq (.seq (.reg [⟨some 6, .mv (.t 5), none⟩,
    ⟨some 7, .mv (.t 0), none⟩,
    ⟨some 8, .len (.t 7), none⟩,
    ⟨some 9, .bin .lss (.t 6) (.t 8), none⟩] [0, 1, 5, 9] [])
  (.cond (.t 9) (.skip) (.exit 0)))
  (.seq (.block 1 (.seq (.regd [⟨some 12, .mv (.t 0), none⟩,
    ⟨some 13, .mv (.t 5), none⟩,
    ⟨some 14, .iaddr 1 (.t 12) (.t 13), none⟩,
    ⟨some 15, .load false 1 (.t 14), none⟩,
    ⟨some 16, .call 98 [.t 15, .k (.int .i64 1), .k (.int .i64 9999)] [] [], none⟩,
    ⟨some 17, .not (.t 16), none⟩,
    ⟨some 18, .mv (.t 17), none⟩,
    ⟨some 19, .mv (.t 5), some (18, false)⟩,
    ⟨some 20, .bin .gtr (.t 19) (.k (.int .i64 0)), some (18, false)⟩,
    ⟨some 21, .mv (.t 20), some (18, false)⟩,
    ⟨some 22, .mv (.t 0), some (21, true)⟩,
    ⟨some 23, .mv (.t 5), some (21, true)⟩,
    ⟨some 24, .bin .sub (.t 23) (.k (.int .i64 1)), some (21, true)⟩,
    ⟨some 25, .iaddr 1 (.t 22) (.t 24), some (21, true)⟩,
    ⟨some 26, .load false 1 (.t 25), some (21, true)⟩,
    ⟨some 27, .mv (.t 0), some (21, true)⟩,
    ⟨some 28, .mv (.t 5), some (21, true)⟩,
    ⟨some 29, .iaddr 1 (.t 27) (.t 28), some (21, true)⟩,
    ⟨some 30, .load false 1 (.t 29), some (21, true)⟩,
    ⟨some 31, .bin .geq (.t 26) (.t 30), some (21, true)⟩,
    ⟨some 32, .pick (.t 21) (.t 31) (.k (.bool false)), some (18, false)⟩,
    ⟨some 33, .pick (.t 18) (.k (.bool true)) (.t 32), none⟩] [[], [], [0, 1], [0, 1, 2], [0, 1, 2, 3], [0, 1, 2, 3, 4], [0, 1, 2, 3, 4, 5], [0, 1, 2, 3, 4, 5, 6], [0, 1, 2, 3, 4, 5, 6, 7], [0, 1, 2, 3, 4, 5, 6, 7, 8], [0, 1, 2, 3, 4, 5, 6, 7, 8, 9], [0, 1, 2, 3, 4, 5, 6, 7, 8, 9], [0, 1, 2, 3, 4, 5, 6, 7, 8, 9, 11], [0, 1, 2, 3, 4, 5, 6, 7, 8, 9, 10, 11, 12], [0, 1, 2, 3, 4, 5, 6, 7, 8, 9, 10, 11, 12, 13], [0, 1, 2, 3, 4, 5, 6, 7, 8, 9], [0, 1, 2, 3, 4, 5, 6, 7, 8, 9], [0, 1, 2, 3, 4, 5, 6, 7, 8, 9, 15, 16], [0, 1, 2, 3, 4, 5, 6, 7, 8, 9, 15, 16, 17], [0, 1, 2, 3, 4, 5, 6, 7, 8, 9, 10, 11, 12, 13, 14, 15, 16, 17, 18], [0, 1, 2, 3, 4, 5, 6, 7, 8, 9, 10, 11, 12, 13, 14, 15, 16, 17, 18, 19], [0, 1, 2, 3, 4, 5, 6, 7, 8, 9, 10, 11, 12, 13, 14, 15, 16, 17, 18, 19, 20]] [0, 1, 5, 33] [])
  (.cond (.t 33) (.seq (.reg [⟨some 4, .mv (.k (.bool false)), none⟩] [4] [])
  (.ret)) (.skip))))
  (.reg [⟨some 10, .mv (.t 5), none⟩,
    ⟨some 11, .bin .add (.t 10) (.k (.int .i64 1)), none⟩,
    ⟨some 5, .mv (.t 11), none⟩] [0, 1, 5] []))
def spec_l06Sorted.b : C := .seq (.reg [⟨some 4, .mv (.k (.bool false)), none⟩] [0, 1] [])
  (.seq (.seq (.reg [⟨some 5, .mv (.k (.int .i64 0)), none⟩] [0, 1, 5] [])
  (.block 0 (.loop spec_l06Sorted.l0)))
  (.seq (.reg [⟨some 34, .mv (.t 0), none⟩,
    ⟨some 35, .len (.t 34), none⟩,
    ⟨some 36, .mv (.t 1), none⟩,
    ⟨some 37, .bin .leq (.t 35) (.t 36), none⟩,
    ⟨some 4, .mv (.t 37), none⟩] [4] [])
  (.ret)))
def spec_l06Sorted.m : Fn := { np := 2, body := spec_l06Sorted.b, res := [.tmp 4] }
def spec_l06Sorted.k (M : Nat → Option Body) : Prop := M 186 = some (.code spec_l06Sorted.m) ∧ spec_l01In.k M
def spec_l06In.l0 : C := .seq (.seq (.reg [⟨some 6, .mv (.t 5), none⟩,
    ⟨some 7, .mv (.t 0), none⟩,
    ⟨some 8, .len (.t 7), none⟩,
    ⟨some 9, .bin .lss (.t 6) (.t 8), none⟩] [0, 1, 5, 9] [])
  (.cond (.t 9) (.skip) (.exit 0)))
  (.seq (.block 1 (.seq (.reg [⟨some 12, .mv (.t 0), none⟩,
    ⟨some 13, .mv (.t 5), none⟩,
    ⟨some 14, .iaddr 1 (.t 12) (.t 13), none⟩,
    ⟨some 15, .load false 1 (.t 14), none⟩,
    ⟨some 16, .mv (.t 1), none⟩,
    ⟨some 17, .bin .eql (.t 15) (.t 16), none⟩] [0, 1, 5, 17] [])
  (.cond (.t 17) (.seq (.reg [⟨some 4, .mv (.k (.bool true)), none⟩] [4] [])
  (.ret)) (.skip))))
  (.reg [⟨some 10, .mv (.t 5), none⟩,
    ⟨some 11, .bin .add (.t 10) (.k (.int .i64 1)), none⟩,
    ⟨some 5, .mv (.t 11), none⟩] [0, 1, 5] []))
def spec_l06In.b : C := .seq (.reg [⟨some 4, .mv (.k (.bool false)), none⟩] [0, 1] [])
  (.seq (.seq (.reg [⟨some 5, .mv (.k (.int .i64 0)), none⟩] [0, 1, 5] [])
  (.block 0 (.loop spec_l06In.l0)))
  (.seq (.reg [⟨some 4, .mv (.k (.bool false)), none⟩] [4] [])
  (.ret)))
def spec_l06In.m : Fn := { np := 2, body := spec_l06In.b, res := [.tmp 4] }
def spec_l06In.k (M : Nat → Option Body) : Prop := M 132 = some (.code spec_l06In.m)
def slices_Index_int_int.l0 : C := .seq (.reg [⟨some 9, .bin .lss (.t 8) (.t 7), none⟩] [0, 1, 7, 8, 9] [])
  (.seq (.cond (.t 9) (.skip) (.exit 0))
  (.seq (.block 1 (.seq (.reg [⟨some 10, .mv (.t 8), none⟩,
    ⟨some 5, .mv (.t 10), none⟩] [0, 1, 5, 7, 8] [])
  (.seq (.reg [⟨some 11, .mv (.t 1), none⟩,
    ⟨some 12, .mv (.t 0), none⟩,
    ⟨some 13, .mv (.t 5), none⟩,
    ⟨some 14, .iaddr 1 (.t 12) (.t 13), none⟩,
    ⟨some 15, .load false 1 (.t 14), none⟩,
    ⟨some 16, .bin .eql (.t 11) (.t 15), none⟩] [0, 1, 5, 7, 8, 16] [])
  (.cond (.t 16) (.seq (.reg [⟨some 17, .mv (.t 5), none⟩,
    ⟨some 4, .mv (.t 17), none⟩] [4] [])
  (.ret)) (.skip)))))
  (.reg [⟨some 18, .bin .add (.t 8) (.k (.int .i64 1)), none⟩,
    ⟨some 8, .mv (.t 18), none⟩] [0, 1, 7, 8] [])))
def slices_Index_int_int.b : C := .seq (.reg [⟨some 4, .mv (.k (.int .i64 0)), none⟩] [0, 1] [])
  (.seq (.seq (.reg [⟨some 6, .mv (.t 0), none⟩,
    ⟨some 7, .len (.t 6), none⟩,
    ⟨some 8, .mv (.k (.int .i64 0)), none⟩] [0, 1, 7, 8] [])
  (.block 0 (.loop slices_Index_int_int.l0)))
  (.seq (.reg [⟨some 4, .mv (.k (.int .i64 (-1))), none⟩] [4] [])
  (.ret)))
def slices_Index_int_int.m : Fn := { np := 2, body := slices_Index_int_int.b, res := [.tmp 4] }
def slices_Index_int_int.k (M : Nat → Option Body) : Prop := M 234 = some (.code slices_Index_int_int.m)
def slices_Contains_int_int.b : C := .seq (.reg [⟨some 4, .mv (.k (.bool false)), none⟩] [0, 1] [])
  (.seq (.reg [⟨some 5, .mv (.t 0), none⟩,
    ⟨some 6, .mv (.t 1), none⟩,
    ⟨some 7, .call 234 [.t 5, .t 6] [] [], none⟩,
    ⟨some 8, .bin .geq (.t 7) (.k (.int .i64 0)), none⟩,
    ⟨some 4, .mv (.t 8), none⟩] [4] [])
  (.ret))
def slices_Contains_int_int.m : Fn := { np := 2, body := slices_Contains_int_int.b, res := [.tmp 4] }
def slices_Contains_int_int.k (M : Nat → Option Body) : Prop := M 156 = some (.code slices_Contains_int_int.m) ∧ slices_Index_int_int.k M
def impl_BoxOk.l0 : C := .seq (.reg [⟨some 43, .bin .lss (.t 42) (.t 41), none⟩] [1, 40, 41, 42, 43] [1])
  (.seq (.cond (.t 43) (.skip) (.exit 0))
  (.seq (.block 1 (.seq (.reg [⟨some 44, .mv (.t 42), none⟩,
    ⟨some 45, .iaddr 4 (.t 40) (.t 42), none⟩,
    ⟨some 46, .load true 4 (.t 45), none⟩,
    ⟨some 4, .alloc [.int .i64 0, .int .i64 0, .nils 3, .str ⟨#[]⟩], none⟩,
    ⟨some 3, .mv (.t 44), none⟩,
    ⟨none, .store 4 (.t 4) (.t 46), none⟩] [1, 3, 4, 40, 41, 42] [1, 4])
  (.seq (.regd [⟨some 47, .load true 4 (.t 4), none⟩,
    ⟨some 48, .call 166 [.t 47] [] [], none⟩,
    ⟨some 49, .not (.t 48), none⟩,
    ⟨some 50, .mv (.t 49), none⟩,
    ⟨some 51, .faddr 1 (.t 4), some (50, false)⟩,
    ⟨some 52, .load false 1 (.t 51), some (50, false)⟩,
    ⟨some 53, .faddr 4 (.t 1), some (50, false)⟩,
    ⟨some 54, .load false 1 (.t 53), some (50, false)⟩,
    ⟨some 55, .bin .geq (.t 52) (.t 54), some (50, false)⟩,
    ⟨some 56, .pick (.t 50) (.k (.bool true)) (.t 55), none⟩,
    ⟨some 57, .mv (.t 56), none⟩,
    ⟨some 58, .mv (.t 3), some (57, false)⟩,
    ⟨some 59, .bin .gtr (.t 58) (.k (.int .i64 0)), some (57, false)⟩,
    ⟨some 60, .mv (.t 59), some (57, false)⟩,
    ⟨some 61, .faddr 5 (.t 1), some (60, true)⟩,
    ⟨some 62, .load false 1 (.t 61), some (60, true)⟩,
    ⟨some 63, .mv (.t 3), some (60, true)⟩,
    ⟨some 64, .bin .sub (.t 63) (.k (.int .i64 1)), some (60, true)⟩,
    ⟨some 65, .iaddr 4 (.t 62) (.t 64), some (60, true)⟩,
    ⟨some 66, .faddr 1 (.t 65), some (60, true)⟩,
    ⟨some 67, .load false 1 (.t 66), some (60, true)⟩,
    ⟨some 68, .faddr 1 (.t 4), some (60, true)⟩,
    ⟨some 69, .load false 1 (.t 68), some (60, true)⟩,
    ⟨some 70, .bin .geq (.t 67) (.t 69), some (60, true)⟩,
    ⟨some 71, .pick (.t 60) (.t 70) (.k (.bool false)), some (57, false)⟩,
    ⟨some 72, .pick (.t 57) (.k (.bool true)) (.t 71), none⟩,
    ⟨some 73, .mv (.t 72), none⟩,
    ⟨some 74, .load true 7 (.t 1), some (73, false)⟩,
    ⟨some 75, .faddr 0 (.t 4), some (73, false)⟩,
    ⟨some 76, .load false 1 (.t 75), some (73, false)⟩,
    ⟨some 77, .call 72 [.t 74, .t 76] [] [], some (73, false)⟩,
    ⟨some 78, .mv (.t 3), some (73, false)⟩,
    ⟨some 79, .bin .neq (.t 77) (.t 78), some (73, false)⟩,
    ⟨some 80, .pick (.t 73) (.k (.bool true)) (.t 79), none⟩,
    ⟨some 81, .mv (.t 80), none⟩,
    ⟨some 82, .faddr 6 (.t 1), some (81, false)⟩,
    ⟨some 83, .load false 1 (.t 82), some (81, false)⟩,
    ⟨some 84, .faddr 0 (.t 4), some (81, false)⟩,
    ⟨some 85, .load false 1 (.t 84), some (81, false)⟩,
    ⟨some 86, .call 156 [.t 83, .t 85] [] [], some (81, false)⟩,
    ⟨some 87, .pick (.t 81) (.k (.bool true)) (.t 86), none⟩] [[], [0], [0, 1], [0, 1, 2], [0, 1, 2, 3], [0, 1, 2, 3, 4], [0, 1, 2, 3], [0, 1, 2, 3, 6], [0, 1, 2, 3, 4, 5, 6, 7], [0, 1, 2, 3, 4, 5, 6, 7, 8], [0, 1, 2, 3, 4, 5, 6, 7, 8, 9], [0, 1, 2, 3, 4, 5, 6, 7, 8, 9, 10], [0, 1, 2, 3, 4, 5, 6, 7, 8, 9, 10, 11], [0, 1, 2, 3, 4, 5, 6, 7, 8, 9, 10, 11, 12], [0, 1, 2, 3, 4, 5, 6, 7, 8, 9, 10, 11, 12, 13], [0, 1, 2, 3, 4, 5, 6, 7, 8, 9, 10, 11, 12, 13, 14], [0, 1, 2, 3, 4, 5, 6, 7, 8, 9, 10, 11, 12, 13], [0, 1, 2, 3, 4, 5, 6, 7, 8, 9, 10, 11, 12, 13, 16], [0, 1, 2, 3, 4, 5, 6, 7, 8, 9, 10, 11, 12, 13, 14, 15, 16, 17], [0, 1, 2, 3, 4, 5, 6, 7, 8, 9, 10, 11, 12, 13, 14, 15, 16, 17, 18], [0, 1, 2, 3, 4, 5, 6, 7, 8, 9, 10, 11, 12, 13, 14, 15, 16, 17, 18, 19], [0, 1, 2, 3, 4, 5, 6, 7, 8, 9, 10, 11, 12, 13], [0, 1, 2, 3, 4, 5, 6, 7, 8, 9, 10, 11, 12, 13, 21], [0, 1, 2, 3, 4, 5, 6, 7, 8, 9, 10, 11, 12, 13, 14, 15, 16, 17, 18, 19, 20, 21, 22], [0, 1, 2, 3, 4, 5, 6, 7, 8, 9, 10, 11, 12, 13, 14, 15, 16, 17, 18, 19, 20, 21, 22, 23], [0, 1, 2, 3, 4, 5, 6, 7, 8, 9, 10, 11, 12, 13, 14, 15, 16, 17, 18, 19, 20, 21, 22, 23, 24], [0, 1, 2, 3, 4, 5, 6, 7, 8, 9, 10, 11, 12, 13, 14, 15, 16, 17, 18, 19, 20, 21, 22, 23, 24, 25], [0, 1, 2, 3, 4, 5, 6, 7, 8, 9, 10, 11, 12, 13, 14, 15, 16, 17, 18, 19, 20, 21, 22, 23, 24, 25, 26], [0, 1, 2, 3, 4, 5, 6, 7, 8, 9, 10, 11, 12, 13, 14, 15, 16, 17, 18, 19, 20, 21, 22, 23, 24, 25, 26], [0, 1, 2, 3, 4, 5, 6, 7, 8, 9, 10, 11, 12, 13, 14, 15, 16, 17, 18, 19, 20, 21, 22, 23, 24, 25, 26, 28], [0, 1, 2, 3, 4, 5, 6, 7, 8, 9, 10, 11, 12, 13, 14, 15, 16, 17, 18, 19, 20, 21, 22, 23, 24, 25, 26, 27, 28, 29], [0, 1, 2, 3, 4, 5, 6, 7, 8, 9, 10, 11, 12, 13, 14, 15, 16, 17, 18, 19, 20, 21, 22, 23, 24, 25, 26], [0, 1, 2, 3, 4, 5, 6, 7, 8, 9, 10, 11, 12, 13, 14, 15, 16, 17, 18, 19, 20, 21, 22, 23, 24, 25, 26, 27, 28, 29, 30, 31], [0, 1, 2, 3, 4, 5, 6, 7, 8, 9, 10, 11, 12, 13, 14, 15, 16, 17, 18, 19, 20, 21, 22, 23, 24, 25, 26, 27, 28, 29, 30, 31, 32], [0, 1, 2, 3, 4, 5, 6, 7, 8, 9, 10, 11, 12, 13, 14, 15, 16, 17, 18, 19, 20, 21, 22, 23, 24, 25, 26, 27, 28, 29, 30, 31, 32, 33], [0, 1, 2, 3, 4, 5, 6, 7, 8, 9, 10, 11, 12, 13, 14, 15, 16, 17, 18, 19, 20, 21, 22, 23, 24, 25, 26, 27, 28, 29, 30, 31, 32, 33, 34], [0, 1, 2, 3, 4, 5, 6, 7, 8, 9, 10, 11, 12, 13, 14, 15, 16, 17, 18, 19, 20, 21, 22, 23, 24, 25, 26, 27, 28, 29, 30, 31, 32, 33, 34, 35], [0, 1, 2, 3, 4, 5, 6, 7, 8, 9, 10, 11, 12, 13, 14, 15, 16, 17, 18, 19, 20, 21, 22, 23, 24, 25, 26, 27, 28, 29, 30, 31, 32, 33, 34], [0, 1, 2, 3, 4, 5, 6, 7, 8, 9, 10, 11, 12, 13, 14, 15, 16, 17, 18, 19, 20, 21, 22, 23, 24, 25, 26, 27, 28, 29, 30, 31, 32, 33, 34, 37], [0, 1, 2, 3, 4, 5, 6, 7, 8, 9, 10, 11, 12, 13, 14, 15, 16, 17, 18, 19, 20, 21, 22, 23, 24, 25, 26, 27, 28, 29, 30, 31, 32, 33, 34, 35, 36, 37, 38], [0, 1, 2, 3, 4, 5, 6, 7, 8, 9, 10, 11, 12, 13, 14, 15, 16, 17, 18, 19, 20, 21, 22, 23, 24, 25, 26, 27, 28, 29, 30, 31, 32, 33, 34, 35, 36, 37, 38, 39]] [1, 40, 41, 42, 87] [1])
  (.cond (.t 87) (.seq (.reg [⟨some 2, .mv (.k (.bool false)), none⟩] [2] [])
  (.ret)) (.skip)))))
  (.reg [⟨some 88, .bin .add (.t 42) (.k (.int .i64 1)), none⟩,
    ⟨some 42, .mv (.t 88), none⟩] [1, 40, 41, 42] [1])))
def impl_BoxOk.b : C := .seq (.reg [⟨some 1, .box (.t 0), none⟩,
    ⟨some 2, .mv (.k (.bool false)), none⟩] [1] [1])
  (.seq (.seq (.reg [⟨some 5, .faddr 0 (.t 1), none⟩,
    ⟨some 6, .load false 1 (.t 5), none⟩,
    ⟨some 7, .call 147 [.t 6] [] [], none⟩,
    ⟨some 8, .not (.t 7), none⟩,
    ⟨some 9, .mv (.t 8), none⟩,
    ⟨some 10, .faddr 1 (.t 1), some (9, false)⟩,
    ⟨some 11, .load false 1 (.t 10), some (9, false)⟩,
    ⟨some 12, .call 89 [.t 11] [] [], some (9, false)⟩,
    ⟨some 13, .not (.t 12), some (9, false)⟩,
    ⟨some 14, .pick (.t 9) (.k (.bool true)) (.t 13), none⟩,
    ⟨some 15, .mv (.t 14), none⟩,
    ⟨some 16, .faddr 2 (.t 1), some (15, false)⟩,
    ⟨some 17, .load true 2 (.t 16), some (15, false)⟩,
    ⟨some 18, .call 164 [.t 17] [] [], some (15, false)⟩,
    ⟨some 19, .not (.t 18), some (15, false)⟩,
    ⟨some 20, .pick (.t 15) (.k (.bool true)) (.t 19), none⟩,
    ⟨some 21, .mv (.t 20), none⟩,
    ⟨some 22, .faddr 4 (.t 1), some (21, false)⟩,
    ⟨some 23, .load false 1 (.t 22), some (21, false)⟩,
    ⟨some 24, .call 101 [.t 23, .k (.int .i64 1), .k (.int .i64 10000)] [] [], some (21, false)⟩,
    ⟨some 25, .not (.t 24), some (21, false)⟩,
    ⟨some 26, .pick (.t 21) (.k (.bool true)) (.t 25), none⟩,
    ⟨some 27, .mv (.t 26), none⟩,
    ⟨some 28, .faddr 5 (.t 1), some (27, false)⟩,
    ⟨some 29, .load false 1 (.t 28), some (27, false)⟩,
    ⟨some 30, .len (.t 29), some (27, false)⟩,
    ⟨some 31, .bin .gtr (.t 30) (.k (.int .i64 10)), some (27, false)⟩,
    ⟨some 32, .pick (.t 27) (.k (.bool true)) (.t 31), none⟩,
    ⟨some 33, .mv (.t 32), none⟩,
    ⟨some 34, .faddr 6 (.t 1), some (33, false)⟩,
    ⟨some 35, .load false 1 (.t 34), some (33, false)⟩,
    ⟨some 36, .call 165 [.t 35, .k (.int .i64 40)] [] [], some (33, false)⟩,
    ⟨some 37, .not (.t 36), some (33, false)⟩,
    ⟨some 38, .pick (.t 33) (.k (.bool true)) (.t 37), none⟩] [1, 38] [1])
  (.cond (.t 38) (.seq (.reg [⟨some 2, .mv (.k (.bool false)), none⟩] [2] [])
  (.ret)) (.skip)))
  (.seq (.seq (.reg [⟨some 39, .faddr 5 (.t 1), none⟩,
    ⟨some 40, .load false 1 (.t 39), none⟩,
    ⟨some 41, .len (.t 40), none⟩,
    ⟨some 42, .mv (.k (.int .i64 0)), none⟩] [1, 40, 41, 42] [1])
  (.block 0 (.loop impl_BoxOk.l0)))
  (.seq (.reg [⟨some 2, .mv (.k (.bool true)), none⟩] [2] [])
  (.ret))))
def impl_BoxOk.m : Fn := { np := 1, body := impl_BoxOk.b, res := [.tmp 2] }
def impl_BoxOk.k (M : Nat → Option Body) : Prop := M 74 = some (.code impl_BoxOk.m) ∧ impl_MailAt.k M ∧ impl_NameOk.k M ∧ impl_within.k M ∧ impl_isGid.k M ∧ slices_Contains_int_int.k M ∧ impl_StampOk.k M ∧ impl_areGids.k M ∧ impl_MailOk.k M
def spec_BoxOk.l0 : C := .seq (.seq (.reg [⟨some 39, .mv (.t 3), none⟩,
    ⟨some 40, .faddr 5 (.t 1), none⟩,
    ⟨some 41, .load false 1 (.t 40), none⟩,
    ⟨some 42, .len (.t 41), none⟩,
    ⟨some 43, .bin .lss (.t 39) (.t 42), none⟩] [1, 3, 43] [1])
  (.cond (.t 43) (.skip) (.exit 0)))
  (.seq (.block 1 (.seq (.reg [⟨some 46, .faddr 5 (.t 1), none⟩,
    ⟨some 47, .load false 1 (.t 46), none⟩,
    ⟨some 48, .mv (.t 3), none⟩,
    ⟨some 49, .iaddr 4 (.t 47) (.t 48), none⟩,
    ⟨some 50, .load true 4 (.t 49), none⟩,
    ⟨some 4, .alloc [.int .i64 0, .int .i64 0, .nils 3, .str ⟨#[]⟩], none⟩,
    ⟨none, .store 4 (.t 4) (.t 50), none⟩] [1, 3, 4] [1, 4])
  (.seq (.regd [⟨some 51, .load true 4 (.t 4), none⟩,
    ⟨some 52, .call 187 [.t 51] [] [], none⟩,
    ⟨some 53, .not (.t 52), none⟩,
    ⟨some 54, .mv (.t 53), none⟩,
    ⟨some 55, .faddr 1 (.t 4), some (54, false)⟩,
    ⟨some 56, .load false 1 (.t 55), some (54, false)⟩,
    ⟨some 57, .faddr 4 (.t 1), some (54, false)⟩,
    ⟨some 58, .load false 1 (.t 57), some (54, false)⟩,
    ⟨some 59, .bin .geq (.t 56) (.t 58), some (54, false)⟩,
    ⟨some 60, .pick (.t 54) (.k (.bool true)) (.t 59), none⟩,
    ⟨some 61, .mv (.t 60), none⟩,
    ⟨some 62, .mv (.t 3), some (61, false)⟩,
    ⟨some 63, .bin .gtr (.t 62) (.k (.int .i64 0)), some (61, false)⟩,
    ⟨some 64, .mv (.t 63), some (61, false)⟩,
    ⟨some 65, .faddr 5 (.t 1), some (64, true)⟩,
    ⟨some 66, .load false 1 (.t 65), some (64, true)⟩,
    ⟨some 67, .mv (.t 3), some (64, true)⟩,
    ⟨some 68, .bin .sub (.t 67) (.k (.int .i64 1)), some (64, true)⟩,
    ⟨some 69, .iaddr 4 (.t 66) (.t 68), some (64, true)⟩,
    ⟨some 70, .faddr 1 (.t 69), some (64, true)⟩,
    ⟨some 71, .load false 1 (.t 70), some (64, true)⟩,
    ⟨some 72, .faddr 1 (.t 4), some (64, true)⟩,
    ⟨some 73, .load false 1 (.t 72), some (64, true)⟩,
    ⟨some 74, .bin .geq (.t 71) (.t 73), some (64, true)⟩,
    ⟨some 75, .pick (.t 64) (.t 74) (.k (.bool false)), some (61, false)⟩,
    ⟨some 76, .pick (.t 61) (.k (.bool true)) (.t 75), none⟩,
    ⟨some 77, .mv (.t 76), none⟩,
    ⟨some 78, .faddr 6 (.t 1), some (77, false)⟩,
    ⟨some 79, .load false 1 (.t 78), some (77, false)⟩,
    ⟨some 80, .faddr 0 (.t 4), some (77, false)⟩,
    ⟨some 81, .load false 1 (.t 80), some (77, false)⟩,
    ⟨some 82, .call 132 [.t 79, .t 81] [] [], some (77, false)⟩,
    ⟨some 83, .pick (.t 77) (.k (.bool true)) (.t 82), none⟩,
    ⟨some 84, .mv (.t 83), none⟩,
    ⟨some 85, .load true 7 (.t 1), some (84, false)⟩,
    ⟨some 86, .faddr 0 (.t 4), some (84, false)⟩,
    ⟨some 87, .load false 1 (.t 86), some (84, false)⟩,
    ⟨some 88, .call 91 [.t 85, .t 87] [] [], some (84, false)⟩,
    ⟨some 89, .mv (.t 3), some (84, false)⟩,
    ⟨some 90, .bin .neq (.t 88) (.t 89), some (84, false)⟩,
    ⟨some 91, .pick (.t 84) (.k (.bool true)) (.t 90), none⟩] [[], [0], [0, 1], [0, 1, 2], [0, 1, 2, 3], [0, 1, 2, 3, 4], [0, 1, 2, 3], [0, 1, 2, 3, 6], [0, 1, 2, 3, 4, 5, 6, 7], [0, 1, 2, 3, 4, 5, 6, 7, 8], [0, 1, 2, 3, 4, 5, 6, 7, 8, 9], [0, 1, 2, 3, 4, 5, 6, 7, 8, 9, 10], [0, 1, 2, 3, 4, 5, 6, 7, 8, 9, 10, 11], [0, 1, 2, 3, 4, 5, 6, 7, 8, 9, 10, 11, 12], [0, 1, 2, 3, 4, 5, 6, 7, 8, 9, 10, 11, 12, 13], [0, 1, 2, 3, 4, 5, 6, 7, 8, 9, 10, 11, 12, 13, 14], [0, 1, 2, 3, 4, 5, 6, 7, 8, 9, 10, 11, 12, 13], [0, 1, 2, 3, 4, 5, 6, 7, 8, 9, 10, 11, 12, 13, 16], [0, 1, 2, 3, 4, 5, 6, 7, 8, 9, 10, 11, 12, 13, 14, 15, 16, 17], [0, 1, 2, 3, 4, 5, 6, 7, 8, 9, 10, 11, 12, 13, 14, 15, 16, 17, 18], [0, 1, 2, 3, 4, 5, 6, 7, 8, 9, 10, 11, 12, 13, 14, 15, 16, 17, 18, 19], [0, 1, 2, 3, 4, 5, 6, 7, 8, 9, 10, 11, 12, 13], [0, 1, 2, 3, 4, 5, 6, 7, 8, 9, 10, 11, 12, 13, 21], [0, 1, 2, 3, 4, 5, 6, 7, 8, 9, 10, 11, 12, 13, 14, 15, 16, 17, 18, 19, 20, 21, 22], [0, 1, 2, 3, 4, 5, 6, 7, 8, 9, 10, 11, 12, 13, 14, 15, 16, 17, 18, 19, 20, 21, 22, 23], [0, 1, 2, 3, 4, 5, 6, 7, 8, 9, 10, 11, 12, 13, 14, 15, 16, 17, 18, 19, 20, 21, 22, 23, 24], [0, 1, 2, 3, 4, 5, 6, 7, 8, 9, 10, 11, 12, 13, 14, 15, 16, 17, 18, 19, 20, 21, 22, 23, 24, 25], [0, 1, 2, 3, 4, 5, 6, 7, 8, 9, 10, 11, 12, 13, 14, 15, 16, 17, 18, 19, 20, 21, 22, 23, 24, 25, 26], [0, 1, 2, 3, 4, 5, 6, 7, 8, 9, 10, 11, 12, 13, 14, 15, 16, 17, 18, 19, 20, 21, 22, 23, 24, 25, 26, 27], [0, 1, 2, 3, 4, 5, 6, 7, 8, 9, 10, 11, 12, 13, 14, 15, 16, 17, 18, 19, 20, 21, 22, 23, 24, 25, 26], [0, 1, 2, 3, 4, 5, 6, 7, 8, 9, 10, 11, 12, 13, 14, 15, 16, 17, 18, 19, 20, 21, 22, 23, 24, 25, 26, 29], [0, 1, 2, 3, 4, 5, 6, 7, 8, 9, 10, 11, 12, 13, 14, 15, 16, 17, 18, 19, 20, 21, 22, 23, 24, 25, 26, 27, 28, 29, 30], [0, 1, 2, 3, 4, 5, 6, 7, 8, 9, 10, 11, 12, 13, 14, 15, 16, 17, 18, 19, 20, 21, 22, 23, 24, 25, 26, 27, 28, 29, 30, 31], [0, 1, 2, 3, 4, 5, 6, 7, 8, 9, 10, 11, 12, 13, 14, 15, 16, 17, 18, 19, 20, 21, 22, 23, 24, 25, 26, 27, 28, 29, 30, 31, 32], [0, 1, 2, 3, 4, 5, 6, 7, 8, 9, 10, 11, 12, 13, 14, 15, 16, 17, 18, 19, 20, 21, 22, 23, 24, 25, 26, 27, 28, 29, 30, 31, 32, 33], [0, 1, 2, 3, 4, 5, 6, 7, 8, 9, 10, 11, 12, 13, 14, 15, 16, 17, 18, 19, 20, 21, 22, 23, 24, 25, 26, 27, 28, 29, 30, 31, 32, 33], [0, 1, 2, 3, 4, 5, 6, 7, 8, 9, 10, 11, 12, 13, 14, 15, 16, 17, 18, 19, 20, 21, 22, 23, 24, 25, 26, 27, 28, 29, 30, 31, 32, 33, 35], [0, 1, 2, 3, 4, 5, 6, 7, 8, 9, 10, 11, 12, 13, 14, 15, 16, 17, 18, 19, 20, 21, 22, 23, 24, 25, 26, 27, 28, 29, 30, 31, 32, 33, 34, 35, 36], [0, 1, 2, 3, 4, 5, 6, 7, 8, 9, 10, 11, 12, 13, 14, 15, 16, 17, 18, 19, 20, 21, 22, 23, 24, 25, 26, 27, 28, 29, 30, 31, 32, 33], [0, 1, 2, 3, 4, 5, 6, 7, 8, 9, 10, 11, 12, 13, 14, 15, 16, 17, 18, 19, 20, 21, 22, 23, 24, 25, 26, 27, 28, 29, 30, 31, 32, 33, 34, 35, 36, 37, 38], [0, 1, 2, 3, 4, 5, 6, 7, 8, 9, 10, 11, 12, 13, 14, 15, 16, 17, 18, 19, 20, 21, 22, 23, 24, 25, 26, 27, 28, 29, 30, 31, 32, 33, 34, 35, 36, 37, 38, 39]] [1, 3, 91] [1])
  (.cond (.t 91) (.seq (.reg [⟨some 2, .mv (.k (.bool false)), none⟩] [2] [])
  (.ret)) (.skip)))))
  (.reg [⟨some 44, .mv (.t 3), none⟩,
    ⟨some 45, .bin .add (.t 44) (.k (.int .i64 1)), none⟩,
    ⟨some 3, .mv (.t 45), none⟩] [1, 3] [1]))
def spec_BoxOk.b : C := .seq (.reg [⟨some 1, .box (.t 0), none⟩,
    ⟨some 2, .mv (.k (.bool false)), none⟩] [1] [1])
  (.seq (.seq (.reg [⟨some 5, .faddr 0 (.t 1), none⟩,
    ⟨some 6, .load false 1 (.t 5), none⟩,
    ⟨some 7, .call 98 [.t 6, .k (.int .i64 1), .k (.int .i64 9999)] [] [], none⟩,
    ⟨some 8, .not (.t 7), none⟩,
    ⟨some 9, .mv (.t 8), none⟩,
    ⟨some 10, .faddr 1 (.t 1), some (9, false)⟩,
    ⟨some 11, .load false 1 (.t 10), some (9, false)⟩,
    ⟨some 12, .call 90 [.t 11] [] [], some (9, false)⟩,
    ⟨some 13, .not (.t 12), some (9, false)⟩,
    ⟨some 14, .pick (.t 9) (.k (.bool true)) (.t 13), none⟩,
    ⟨some 15, .mv (.t 14), none⟩,
    ⟨some 16, .faddr 2 (.t 1), some (15, false)⟩,
    ⟨some 17, .load true 2 (.t 16), some (15, false)⟩,
    ⟨some 18, .call 183 [.t 17] [] [], some (15, false)⟩,
    ⟨some 19, .not (.t 18), some (15, false)⟩,
    ⟨some 20, .pick (.t 15) (.k (.bool true)) (.t 19), none⟩,
    ⟨some 21, .mv (.t 20), none⟩,
    ⟨some 22, .faddr 4 (.t 1), some (21, false)⟩,
    ⟨some 23, .load false 1 (.t 22), some (21, false)⟩,
    ⟨some 24, .call 98 [.t 23, .k (.int .i64 1), .k (.int .i64 10000)] [] [], some (21, false)⟩,
    ⟨some 25, .not (.t 24), some (21, false)⟩,
    ⟨some 26, .pick (.t 21) (.k (.bool true)) (.t 25), none⟩,
    ⟨some 27, .mv (.t 26), none⟩,
    ⟨some 28, .faddr 5 (.t 1), some (27, false)⟩,
    ⟨some 29, .load false 1 (.t 28), some (27, false)⟩,
    ⟨some 30, .len (.t 29), some (27, false)⟩,
    ⟨some 31, .bin .gtr (.t 30) (.k (.int .i64 10)), some (27, false)⟩,
    ⟨some 32, .pick (.t 27) (.k (.bool true)) (.t 31), none⟩,
    ⟨some 33, .mv (.t 32), none⟩,
    ⟨some 34, .faddr 6 (.t 1), some (33, false)⟩,
    ⟨some 35, .load false 1 (.t 34), some (33, false)⟩,
    ⟨some 36, .call 186 [.t 35, .k (.int .i64 40)] [] [], some (33, false)⟩,
    ⟨some 37, .not (.t 36), some (33, false)⟩,
    ⟨some 38, .pick (.t 33) (.k (.bool true)) (.t 37), none⟩] [1, 38] [1])
  (.cond (.t 38) (.seq (.reg [⟨some 2, .mv (.k (.bool false)), none⟩] [2] [])
  (.ret)) (.skip)))
  (.seq (.seq (.reg [⟨some 3, .mv (.k (.int .i64 0)), none⟩] [1, 3] [1])
  (.block 0 (.loop spec_BoxOk.l0)))
  (.seq (.reg [⟨some 2, .mv (.k (.bool true)), none⟩] [2] [])
  (.ret))))
def spec_BoxOk.m : Fn := { np := 1, body := spec_BoxOk.b, res := [.tmp 2] }
def spec_BoxOk.k (M : Nat → Option Body) : Prop := M 88 = some (.code spec_BoxOk.m) ∧ spec_NameOk.k M ∧ spec_MailAt.k M ∧ spec_l01In.k M ∧ spec_l06In.k M ∧ spec_StampOk.k M ∧ spec_l06Sorted.k M ∧ spec_MailOk.k M
def impl_MailText.l0 : C := .seq (.reg [⟨some 20, .bin .lss (.t 19) (.t 18), none⟩] [1, 4, 17, 18, 19, 20] [1])
  (.seq (.cond (.t 20) (.skip) (.exit 0))
  (.seq (.block 1 (.seq (.reg [⟨some 21, .iaddr 3 (.t 17) (.t 19), none⟩,
    ⟨some 22, .load true 3 (.t 21), none⟩,
    ⟨some 6, .alloc [.int .i64 0, .int .i64 0, .int .i64 0], none⟩,
    ⟨none, .store 3 (.t 6) (.t 22), none⟩] [1, 4, 6, 17, 18, 19] [1, 6])
  (.reg [⟨some 23, .mv (.t 4), none⟩,
    ⟨some 24, .faddr 0 (.t 6), none⟩,
    ⟨some 25, .load false 1 (.t 24), none⟩,
    ⟨some 26, .faddr 1 (.t 6), none⟩,
    ⟨some 27, .faddr 0 (.t 26), none⟩,
    ⟨some 28, .load false 1 (.t 27), none⟩,
    ⟨some 29, .faddr 1 (.t 6), none⟩,
    ⟨some 30, .faddr 1 (.t 29), none⟩,
    ⟨some 31, .load false 1 (.t 30), none⟩,
    ⟨some 32, .bslice 1 3 [.int .i64 0] [(0, .t 25), (1, .t 28), (2, .t 31)], none⟩,
    ⟨some 33, .call 151 [.t 32] [] [], none⟩,
    ⟨some 34, .bin .add (.t 23) (.t 33), none⟩,
    ⟨some 4, .mv (.t 34), none⟩] [1, 4, 17, 18, 19] [1])))
  (.reg [⟨some 35, .bin .add (.t 19) (.k (.int .i64 1)), none⟩,
    ⟨some 19, .mv (.t 35), none⟩] [1, 4, 17, 18, 19] [1])))
def impl_MailText.b : C := .seq (.reg [⟨some 1, .box (.t 0), none⟩,
    ⟨some 2, .mv (.k (.str ⟨#[]⟩)), none⟩,
    ⟨some 3, .mv (.k (.bool false)), none⟩] [1] [1])
  (.seq (.seq (.reg [⟨some 7, .load true 4 (.t 1), none⟩,
    ⟨some 8, .call 166 [.t 7] [] [], none⟩,
    ⟨some 9, .not (.t 8), none⟩] [1, 9] [1])
  (.cond (.t 9) (.seq (.reg [⟨some 2, .mv (.k (.str ⟨#[]⟩)), none⟩,
    ⟨some 3, .mv (.k (.bool false)), none⟩] [2, 3] [])
  (.ret)) (.skip)))
  (.seq (.reg [⟨some 10, .faddr 0 (.t 1), none⟩,
    ⟨some 11, .load false 1 (.t 10), none⟩,
    ⟨some 12, .faddr 1 (.t 1), none⟩,
    ⟨some 13, .load false 1 (.t 12), none⟩,
    ⟨some 14, .bslice 1 2 [.int .i64 0] [(0, .t 11), (1, .t 13)], none⟩,
    ⟨some 15, .call 151 [.t 14] [] [], none⟩,
    ⟨some 4, .mv (.t 15), none⟩] [1, 4] [1])
  (.seq (.seq (.reg [⟨some 16, .faddr 2 (.t 1), none⟩,
    ⟨some 17, .load false 1 (.t 16), none⟩,
    ⟨some 18, .len (.t 17), none⟩,
    ⟨some 19, .mv (.k (.int .i64 0)), none⟩] [1, 4, 17, 18, 19] [1])
  (.block 0 (.loop impl_MailText.l0)))
  (.seq (.reg [⟨some 36, .mv (.t 4), none⟩,
    ⟨some 37, .faddr 3 (.t 1), none⟩,
    ⟨some 38, .load false 1 (.t 37), none⟩,
    ⟨some 39, .call 102 [.t 38] [] [], none⟩,
    ⟨some 40, .bin .add (.t 36) (.t 39), none⟩,
    ⟨some 2, .mv (.t 40), none⟩,
    ⟨some 3, .mv (.k (.bool true)), none⟩] [2, 3] [])
  (.ret)))))
def impl_MailText.m : Fn := { np := 1, body := impl_MailText.b, res := [.tmp 2, .tmp 3] }
def impl_MailText.k (M : Nat → Option Body) : Prop := M 213 = some (.code impl_MailText.m) ∧ impl_short.k M ∧ impl_vars.k M ∧ impl_MailOk.k M
def spec_MailText.l0 : C := .seq (.seq (.reg [⟨some 16, .mv (.t 5), none⟩,
    ⟨some 17, .faddr 2 (.t 1), none⟩,
    ⟨some 18, .load false 1 (.t 17), none⟩,
    ⟨some 19, .len (.t 18), none⟩,
    ⟨some 20, .bin .lss (.t 16) (.t 19), none⟩] [1, 4, 5, 20] [1])
  (.cond (.t 20) (.skip) (.exit 0)))
  (.seq (.block 1 (.regd [⟨some 23, .mv (.t 4), none⟩,
    ⟨some 24, .faddr 2 (.t 1), none⟩,
    ⟨some 25, .load false 1 (.t 24), none⟩,
    ⟨some 26, .mv (.t 5), none⟩,
    ⟨some 27, .iaddr 3 (.t 25) (.t 26), none⟩,
    ⟨some 28, .faddr 0 (.t 27), none⟩,
    ⟨some 29, .load false 1 (.t 28), none⟩,
    ⟨some 30, .call 99 [.t 29] [] [], none⟩,
    ⟨some 31, .bin .add (.t 23) (.t 30), none⟩,
    ⟨some 32, .faddr 2 (.t 1), none⟩,
    ⟨some 33, .load false 1 (.t 32), none⟩,
    ⟨some 34, .mv (.t 5), none⟩,
    ⟨some 35, .iaddr 3 (.t 33) (.t 34), none⟩,
    ⟨some 36, .faddr 1 (.t 35), none⟩,
    ⟨some 37, .faddr 0 (.t 36), none⟩,
    ⟨some 38, .load false 1 (.t 37), none⟩,
    ⟨some 39, .call 99 [.t 38] [] [], none⟩,
    ⟨some 40, .bin .add (.t 31) (.t 39), none⟩,
    ⟨some 41, .faddr 2 (.t 1), none⟩,
    ⟨some 42, .load false 1 (.t 41), none⟩,
    ⟨some 43, .mv (.t 5), none⟩,
    ⟨some 44, .iaddr 3 (.t 42) (.t 43), none⟩,
    ⟨some 45, .faddr 1 (.t 44), none⟩,
    ⟨some 46, .faddr 1 (.t 45), none⟩,
    ⟨some 47, .load false 1 (.t 46), none⟩,
    ⟨some 48, .call 99 [.t 47] [] [], none⟩,
    ⟨some 49, .bin .add (.t 40) (.t 48), none⟩,
    ⟨some 4, .mv (.t 49), none⟩] [[], [], [1], [], [1, 2, 3], [1, 2, 3, 4], [1, 2, 3, 4, 5], [1, 2, 3, 4, 5, 6], [0, 1, 2, 3, 4, 5, 6, 7], [], [9], [], [9, 10, 11], [9, 10, 11, 12], [9, 10, 11, 12, 13], [9, 10, 11, 12, 13, 14], [1, 2, 3, 4, 5, 6, 7, 9, 10, 11, 12, 13, 14, 15], [0, 1, 2, 3, 4, 5, 6, 7, 8, 9, 10, 11, 12, 13, 14, 15, 16], [], [18], [], [18, 19, 20], [18, 19, 20, 21], [18, 19, 20, 21, 22], [18, 19, 20, 21, 22, 23], [1, 2, 3, 4, 5, 6, 7, 9, 10, 11, 12, 13, 14, 15, 16, 18, 19, 20, 21, 22, 23, 24], [0, 1, 2, 3, 4, 5, 6, 7, 8, 9, 10, 11, 12, 13, 14, 15, 16, 17, 18, 19, 20, 21, 22, 23, 24, 25], [0, 1, 2, 3, 4, 5, 6, 7, 8, 9, 10, 11, 12, 13, 14, 15, 16, 17, 18, 19, 20, 21, 22, 23, 24, 25, 26]] [1, 4, 5] [1]))
  (.reg [⟨some 21, .mv (.t 5), none⟩,
    ⟨some 22, .bin .add (.t 21) (.k (.int .i64 1)), none⟩,
    ⟨some 5, .mv (.t 22), none⟩] [1, 4, 5] [1]))
def spec_MailText.b : C := .seq (.reg [⟨some 1, .box (.t 0), none⟩,
    ⟨some 2, .mv (.k (.str ⟨#[]⟩)), none⟩,
    ⟨some 3, .mv (.k (.bool false)), none⟩] [1] [1])
  (.seq (.seq (.reg [⟨some 6, .load true 4 (.t 1), none⟩,
    ⟨some 7, .call 187 [.t 6] [] [], none⟩,
    ⟨some 8, .not (.t 7), none⟩] [1, 8] [1])
  (.cond (.t 8) (.seq (.reg [⟨some 2, .mv (.k (.str ⟨#[]⟩)), none⟩,
    ⟨some 3, .mv (.k (.bool false)), none⟩] [2, 3] [])
  (.ret)) (.skip)))
  (.seq (.regd [⟨some 9, .faddr 0 (.t 1), none⟩,
    ⟨some 10, .load false 1 (.t 9), none⟩,
    ⟨some 11, .call 99 [.t 10] [] [], none⟩,
    ⟨some 12, .faddr 1 (.t 1), none⟩,
    ⟨some 13, .load false 1 (.t 12), none⟩,
    ⟨some 14, .call 99 [.t 13] [] [], none⟩,
    ⟨some 15, .bin .add (.t 11) (.t 14), none⟩,
    ⟨some 4, .mv (.t 15), none⟩] [[], [0], [0, 1], [], [3], [0, 1, 2, 3, 4], [0, 1, 2, 3, 4, 5], [0, 1, 2, 3, 4, 5, 6]] [1, 4] [1])
  (.seq (.seq (.reg [⟨some 5, .mv (.k (.int .i64 0)), none⟩] [1, 4, 5] [1])
  (.block 0 (.loop spec_MailText.l0)))
  (.seq (.regd [⟨some 50, .mv (.t 4), none⟩,
    ⟨some 51, .faddr 3 (.t 1), none⟩,
    ⟨some 52, .load false 1 (.t 51), none⟩,
    ⟨some 53, .slen (.t 52), none⟩,
    ⟨some 54, .call 99 [.t 53] [] [], none⟩,
    ⟨some 55, .bin .add (.t 50) (.t 54), none⟩,
    ⟨some 56, .faddr 3 (.t 1), none⟩,
    ⟨some 57, .load false 1 (.t 56), none⟩,
    ⟨some 58, .bin .add (.t 55) (.t 57), none⟩,
    ⟨some 2, .mv (.t 58), none⟩,
    ⟨some 3, .mv (.k (.bool true)), none⟩] [[], [], [1], [1, 2], [1, 2, 3], [0, 1, 2, 3, 4], [], [6], [0, 1, 2, 3, 4, 5, 6, 7], [0, 1, 2, 3, 4, 5, 6, 7, 8], [0, 1, 2, 3, 4, 5, 6, 7, 8, 9]] [2, 3] [])
  (.ret)))))
def spec_MailText.m : Fn := { np := 1, body := spec_MailText.b, res := [.tmp 2, .tmp 3] }
def spec_MailText.k (M : Nat → Option Body) : Prop := M 122 = some (.code spec_MailText.m) ∧ spec_l01Var.k M ∧ spec_MailOk.k M
def impl_boxText.l0 : C := .seq (.reg [⟨some 34, .bin .lss (.t 33) (.t 32), none⟩] [1, 3, 31, 32, 33, 34] [1])
  (.seq (.cond (.t 34) (.skip) (.exit 0))
  (.seq (.block 1 (.seq (.reg [⟨some 35, .iaddr 4 (.t 31) (.t 33), none⟩,
    ⟨some 36, .load true 4 (.t 35), none⟩,
    ⟨some 5, .alloc [.int .i64 0, .int .i64 0, .nils 3, .str ⟨#[]⟩], none⟩,
    ⟨none, .store 4 (.t 5) (.t 36), none⟩] [1, 3, 5, 31, 32, 33] [1, 5])
  (.seq (.reg [⟨some 38, .load true 4 (.t 5), none⟩,
    ⟨some 39, .call 213 [.t 38] [] [], none⟩,
    ⟨some 37, .mv (.t 39), none⟩,
    ⟨some 40, .ext 0 (.t 37), none⟩,
    ⟨some 41, .ext 1 (.t 37), none⟩,
    ⟨some 6, .mv (.t 40), none⟩,
    ⟨some 7, .mv (.t 41), none⟩] [1, 3, 6, 31, 32, 33] [1])
  (.reg [⟨some 42, .mv (.t 3), none⟩,
    ⟨some 43, .mv (.t 6), none⟩,
    ⟨some 44, .bin .add (.t 42) (.t 43), none⟩,
    ⟨some 3, .mv (.t 44), none⟩] [1, 3, 31, 32, 33] [1]))))
  (.reg [⟨some 45, .bin .add (.t 33) (.k (.int .i64 1)), none⟩,
    ⟨some 33, .mv (.t 45), none⟩] [1, 3, 31, 32, 33] [1])))
def impl_boxText.b : C := .seq (.reg [⟨some 1, .box (.t 0), none⟩,
    ⟨some 2, .mv (.k (.str ⟨#[]⟩)), none⟩] [1] [1])
  (.seq (.regd [⟨some 8, .faddr 0 (.t 1), none⟩,
    ⟨some 9, .load false 1 (.t 8), none⟩,
    ⟨some 10, .bslice 1 1 [.int .i64 0] [(0, .t 9)], none⟩,
    ⟨some 11, .call 151 [.t 10] [] [], none⟩,
    ⟨some 12, .faddr 1 (.t 1), none⟩,
    ⟨some 13, .load false 1 (.t 12), none⟩,
    ⟨some 14, .call 102 [.t 13] [] [], none⟩,
    ⟨some 15, .bin .add (.t 11) (.t 14), none⟩,
    ⟨some 16, .faddr 2 (.t 1), none⟩,
    ⟨some 17, .faddr 0 (.t 16), none⟩,
    ⟨some 18, .load false 1 (.t 17), none⟩,
    ⟨some 19, .faddr 2 (.t 1), none⟩,
    ⟨some 20, .faddr 1 (.t 19), none⟩,
    ⟨some 21, .load false 1 (.t 20), none⟩,
    ⟨some 22, .faddr 4 (.t 1), none⟩,
    ⟨some 23, .load false 1 (.t 22), none⟩,
    ⟨some 24, .faddr 5 (.t 1), none⟩,
    ⟨some 25, .load false 1 (.t 24), none⟩,
    ⟨some 26, .len (.t 25), none⟩,
    ⟨some 27, .bslice 1 4 [.int .i64 0] [(0, .t 18), (1, .t 21), (2, .t 23), (3, .t 26)], none⟩,
    ⟨some 28, .call 151 [.t 27] [] [], none⟩,
    ⟨some 29, .bin .add (.t 15) (.t 28), none⟩,
    ⟨some 3, .mv (.t 29), none⟩] [[], [0], [0, 1], [0, 1, 2], [], [4], [0, 1, 2, 3, 4, 5], [0, 1, 2, 3, 4, 5, 6], [], [8], [8, 9], [], [11], [11, 12], [], [14], [], [16], [16, 17], [8, 9, 10, 11, 12, 13, 14, 15, 16, 17, 18], [0, 1, 2, 3, 4, 5, 6, 8, 9, 10, 11, 12, 13, 14, 15, 16, 17, 18, 19], [0, 1, 2, 3, 4, 5, 6, 7, 8, 9, 10, 11, 12, 13, 14, 15, 16, 17, 18, 19, 20], [0, 1, 2, 3, 4, 5, 6, 7, 8, 9, 10, 11, 12, 13, 14, 15, 16, 17, 18, 19, 20, 21]] [1, 3] [1])
  (.seq (.seq (.reg [⟨some 30, .faddr 5 (.t 1), none⟩,
    ⟨some 31, .load false 1 (.t 30), none⟩,
    ⟨some 32, .len (.t 31), none⟩,
    ⟨some 33, .mv (.k (.int .i64 0)), none⟩] [1, 3, 31, 32, 33] [1])
  (.block 0 (.loop impl_boxText.l0)))
  (.seq (.regd [⟨some 46, .mv (.t 3), none⟩,
    ⟨some 47, .faddr 6 (.t 1), none⟩,
    ⟨some 48, .load false 1 (.t 47), none⟩,
    ⟨some 49, .len (.t 48), none⟩,
    ⟨some 50, .bslice 1 1 [.int .i64 0] [(0, .t 49)], none⟩,
    ⟨some 51, .call 151 [.t 50] [] [], none⟩,
    ⟨some 52, .bin .add (.t 46) (.t 51), none⟩,
    ⟨some 53, .faddr 6 (.t 1), none⟩,
    ⟨some 54, .load false 1 (.t 53), none⟩,
    ⟨some 55, .call 151 [.t 54] [] [], none⟩,
    ⟨some 56, .bin .add (.t 52) (.t 55), none⟩,
    ⟨some 2, .mv (.t 56), none⟩] [[], [], [1], [1, 2], [1, 2, 3], [1, 2, 3, 4], [0, 1, 2, 3, 4, 5], [], [7], [1, 2, 3, 4, 5, 7, 8], [0, 1, 2, 3, 4, 5, 6, 7, 8, 9], [0, 1, 2, 3, 4, 5, 6, 7, 8, 9, 10]] [2] [])
  (.ret))))
def impl_boxText.m : Fn := { np := 1, body := impl_boxText.b, res := [.tmp 2] }
def impl_boxText.k (M : Nat → Option Body) : Prop := M 123 = some (.code impl_boxText.m) ∧ impl_short.k M ∧ impl_vars.k M ∧ impl_MailText.k M
def impl_BoxText.b : C := .seq (.reg [⟨some 1, .box (.t 0), none⟩,
    ⟨some 2, .mv (.k (.str ⟨#[]⟩)), none⟩,
    ⟨some 3, .mv (.k (.bool false)), none⟩] [1] [1])
  (.seq (.seq (.reg [⟨some 4, .load true 7 (.t 1), none⟩,
    ⟨some 5, .call 74 [.t 4] [] [], none⟩,
    ⟨some 6, .not (.t 5), none⟩] [1, 6] [1])
  (.cond (.t 6) (.seq (.reg [⟨some 2, .mv (.k (.str ⟨#[]⟩)), none⟩,
    ⟨some 3, .mv (.k (.bool false)), none⟩] [2, 3] [])
  (.ret)) (.skip)))
  (.seq (.reg [⟨some 7, .load true 7 (.t 1), none⟩,
    ⟨some 8, .call 123 [.t 7] [] [], none⟩,
    ⟨some 2, .mv (.t 8), none⟩,
    ⟨some 3, .mv (.k (.bool true)), none⟩] [2, 3] [])
  (.ret)))
def impl_BoxText.m : Fn := { np := 1, body := impl_BoxText.b, res := [.tmp 2, .tmp 3] }
def impl_BoxText.k (M : Nat → Option Body) : Prop := M 35 = some (.code impl_BoxText.m) ∧ impl_BoxOk.k M ∧ impl_boxText.k M
def spec_BoxText.l0 : C := .seq (.seq (.reg [⟨some 42, .mv (.t 5), none⟩,
    ⟨some 43, .faddr 5 (.t 1), none⟩,
    ⟨some 44, .load false 1 (.t 43), none⟩,
    ⟨some 45, .len (.t 44), none⟩,
    ⟨some 46, .bin .lss (.t 42) (.t 45), none⟩] [1, 4, 5, 46] [1])
  (.cond (.t 46) (.skip) (.exit 0)))
  (.seq (.block 1 (.seq (.reg [⟨some 50, .faddr 5 (.t 1), none⟩,
    ⟨some 51, .load false 1 (.t 50), none⟩,
    ⟨some 52, .mv (.t 5), none⟩,
    ⟨some 53, .iaddr 4 (.t 51) (.t 52), none⟩,
    ⟨some 54, .load true 4 (.t 53), none⟩,
    ⟨some 55, .call 122 [.t 54] [] [], none⟩,
    ⟨some 49, .mv (.t 55), none⟩,
    ⟨some 56, .ext 0 (.t 49), none⟩,
    ⟨some 57, .ext 1 (.t 49), none⟩,
    ⟨some 6, .mv (.t 56), none⟩,
    ⟨some 7, .mv (.t 57), none⟩] [1, 4, 5, 6] [1])
  (.reg [⟨some 58, .mv (.t 4), none⟩,
    ⟨some 59, .mv (.t 6), none⟩,
    ⟨some 60, .bin .add (.t 58) (.t 59), none⟩,
    ⟨some 4, .mv (.t 60), none⟩] [1, 4, 5] [1])))
  (.reg [⟨some 47, .mv (.t 5), none⟩,
    ⟨some 48, .bin .add (.t 47) (.k (.int .i64 1)), none⟩,
    ⟨some 5, .mv (.t 48), none⟩] [1, 4, 5] [1]))
def spec_BoxText.l1 : C := .seq (.seq (.reg [⟨some 67, .mv (.t 8), none⟩,
    ⟨some 68, .faddr 6 (.t 1), none⟩,
    ⟨some 69, .load false 1 (.t 68), none⟩,
    ⟨some 70, .len (.t 69), none⟩,
    ⟨some 71, .bin .lss (.t 67) (.t 70), none⟩] [1, 4, 8, 71] [1])
  (.cond (.t 71) (.skip) (.exit 2)))
  (.seq (.block 3 (.reg [⟨some 74, .mv (.t 4), none⟩,
    ⟨some 75, .faddr 6 (.t 1), none⟩,
    ⟨some 76, .load false 1 (.t 75), none⟩,
    ⟨some 77, .mv (.t 8), none⟩,
    ⟨some 78, .iaddr 1 (.t 76) (.t 77), none⟩,
    ⟨some 79, .load false 1 (.t 78), none⟩,
    ⟨some 80, .call 99 [.t 79] [] [], none⟩,
    ⟨some 81, .bin .add (.t 74) (.t 80), none⟩,
    ⟨some 4, .mv (.t 81), none⟩] [1, 4, 8] [1]))
  (.reg [⟨some 72, .mv (.t 8), none⟩,
    ⟨some 73, .bin .add (.t 72) (.k (.int .i64 1)), none⟩,
    ⟨some 8, .mv (.t 73), none⟩] [1, 4, 8] [1]))
def spec_BoxText.b : C := .seq (.reg [⟨some 1, .box (.t 0), none⟩,
    ⟨some 2, .mv (.k (.str ⟨#[]⟩)), none⟩,
    ⟨some 3, .mv (.k (.bool false)), none⟩] [1] [1])
  (.seq (.seq (.reg [⟨some 9, .load true 7 (.t 1), none⟩,
    ⟨some 10, .call 88 [.t 9] [] [], none⟩,
    ⟨some 11, .not (.t 10), none⟩] [1, 11] [1])
  (.cond (.t 11) (.seq (.reg [⟨some 2, .mv (.k (.str ⟨#[]⟩)), none⟩,
    ⟨some 3, .mv (.k (.bool false)), none⟩] [2, 3] [])
  (.ret)) (.skip)))
  (.seq (.regd [⟨some 12, .faddr 0 (.t 1), none⟩,
    ⟨some 13, .load false 1 (.t 12), none⟩,
    ⟨some 14, .call 99 [.t 13] [] [], none⟩,
    ⟨some 15, .faddr 1 (.t 1), none⟩,
    ⟨some 16, .load false 1 (.t 15), none⟩,
    ⟨some 17, .slen (.t 16), none⟩,
    ⟨some 18, .call 99 [.t 17] [] [], none⟩,
    ⟨some 19, .bin .add (.t 14) (.t 18), none⟩,
    ⟨some 20, .faddr 1 (.t 1), none⟩,
    ⟨some 21, .load false 1 (.t 20), none⟩,
    ⟨some 22, .bin .add (.t 19) (.t 21), none⟩,
    ⟨some 23, .faddr 2 (.t 1), none⟩,
    ⟨some 24, .faddr 0 (.t 23), none⟩,
    ⟨some 25, .load false 1 (.t 24), none⟩,
    ⟨some 26, .call 99 [.t 25] [] [], none⟩,
    ⟨some 27, .bin .add (.t 22) (.t 26), none⟩,
    ⟨some 28, .faddr 2 (.t 1), none⟩,
    ⟨some 29, .faddr 1 (.t 28), none⟩,
    ⟨some 30, .load false 1 (.t 29), none⟩,
    ⟨some 31, .call 99 [.t 30] [] [], none⟩,
    ⟨some 32, .bin .add (.t 27) (.t 31), none⟩,
    ⟨some 33, .faddr 4 (.t 1), none⟩,
    ⟨some 34, .load false 1 (.t 33), none⟩,
    ⟨some 35, .call 99 [.t 34] [] [], none⟩,
    ⟨some 36, .bin .add (.t 32) (.t 35), none⟩,
    ⟨some 37, .faddr 5 (.t 1), none⟩,
    ⟨some 38, .load false 1 (.t 37), none⟩,
    ⟨some 39, .len (.t 38), none⟩,
    ⟨some 40, .call 99 [.t 39] [] [], none⟩,
    ⟨some 41, .bin .add (.t 36) (.t 40), none⟩,
    ⟨some 4, .mv (.t 41), none⟩] [[], [0], [0, 1], [], [3], [3, 4], [0, 1, 2, 3, 4, 5], [0, 1, 2, 3, 4, 5, 6], [], [8], [0, 1, 2, 3, 4, 5, 6, 7, 8, 9], [], [11], [11, 12], [0, 1, 2, 3, 4, 5, 6, 11, 12, 13], [0, 1, 2, 3, 4, 5, 6, 7, 8, 9, 10, 11, 12, 13, 14], [], [16], [16, 17], [0, 1, 2, 3, 4, 5, 6, 11, 12, 13, 14, 16, 17, 18], [0, 1, 2, 3, 4, 5, 6, 7, 8, 9, 10, 11, 12, 13, 14, 15, 16, 17, 18, 19], [], [21], [0, 1, 2, 3, 4, 5, 6, 11, 12, 13, 14, 16, 17, 18, 19, 21, 22], [0, 1, 2, 3, 4, 5, 6, 7, 8, 9, 10, 11, 12, 13, 14, 15, 16, 17, 18, 19, 20, 21, 22, 23], [], [25], [25, 26], [0, 1, 2, 3, 4, 5, 6, 11, 12, 13, 14, 16, 17, 18, 19, 21, 22, 23, 25, 26, 27], [0, 1, 2, 3, 4, 5, 6, 7, 8, 9, 10, 11, 12, 13, 14, 15, 16, 17, 18, 19, 20, 21, 22, 23, 24, 25, 26, 27, 28], [0, 1, 2, 3, 4, 5, 6, 7, 8, 9, 10, 11, 12, 13, 14, 15, 16, 17, 18, 19, 20, 21, 22, 23, 24, 25, 26, 27, 28, 29]] [1, 4] [1])
  (.seq (.seq (.reg [⟨some 5, .mv (.k (.int .i64 0)), none⟩] [1, 4, 5] [1])
  (.block 0 (.loop spec_BoxText.l0)))
  (.seq (.reg [⟨some 61, .mv (.t 4), none⟩,
    ⟨some 62, .faddr 6 (.t 1), none⟩,
    ⟨some 63, .load false 1 (.t 62), none⟩,
    ⟨some 64, .len (.t 63), none⟩,
    ⟨some 65, .call 99 [.t 64] [] [], none⟩,
    ⟨some 66, .bin .add (.t 61) (.t 65), none⟩,
    ⟨some 4, .mv (.t 66), none⟩] [1, 4] [1])
  (.seq (.seq (.reg [⟨some 8, .mv (.k (.int .i64 0)), none⟩] [1, 4, 8] [1])
  (.block 2 (.loop spec_BoxText.l1)))
  (.seq (.reg [⟨some 82, .mv (.t 4), none⟩,
    ⟨some 2, .mv (.t 82), none⟩,
    ⟨some 3, .mv (.k (.bool true)), none⟩] [2, 3] [])
  (.ret)))))))
def spec_BoxText.m : Fn := { np := 1, body := spec_BoxText.b, res := [.tmp 2, .tmp 3] }
def spec_BoxText.k (M : Nat → Option Body) : Prop := M 34 = some (.code spec_BoxText.m) ∧ spec_BoxOk.k M ∧ spec_l01Var.k M ∧ spec_MailText.k M
def laws_FnExactBoxText.b : C := .seq (.reg [⟨some 1, .box (.t 0), none⟩,
    ⟨some 2, .mv (.k (.bool false)), none⟩] [1] [1])
  (.seq (.reg [⟨some 3, .mv (.k (.int .i64 1048576)), none⟩] [1, 3] [1])
  (.seq (.reg [⟨some 9, .load true 7 (.t 1), none⟩,
    ⟨some 10, .mv (.t 3), none⟩,
    ⟨some 11, .call 17 [.t 9, .t 10] [] [], none⟩,
    ⟨some 3, .mv (.t 11), none⟩] [1, 3] [1])
  (.seq (.seq (.reg [⟨some 12, .mv (.t 3), none⟩,
    ⟨some 13, .bin .lss (.t 12) (.k (.int .i64 0)), none⟩] [1, 13] [1])
  (.cond (.t 13) (.seq (.reg [⟨some 2, .mv (.k (.bool true)), none⟩] [2] [])
  (.ret)) (.skip)))
  (.seq (.reg [⟨some 15, .load true 7 (.t 1), none⟩,
    ⟨some 16, .call 18 [.t 15] [] [], none⟩,
    ⟨some 17, .call 34 [.t 16] [] [], none⟩,
    ⟨some 14, .mv (.t 17), none⟩,
    ⟨some 18, .ext 0 (.t 14), none⟩,
    ⟨some 19, .ext 1 (.t 14), none⟩,
    ⟨some 4, .mv (.t 18), none⟩,
    ⟨some 5, .mv (.t 19), none⟩] [1, 4, 5] [1])
  (.seq (.reg [⟨some 20, .load true 7 (.t 1), none⟩,
    ⟨some 21, .call 18 [.t 20] [] [], none⟩,
    ⟨some 6, .alloc [.int .i64 0, .str ⟨#[]⟩, .int .i64 0, .int .i64 0, .int .i64 0, .nils 4, .nils 1], none⟩,
    ⟨none, .store 7 (.t 6) (.t 21), none⟩] [1, 4, 5, 6] [1, 6])
  (.seq (.reg [⟨some 23, .load true 7 (.t 6), none⟩,
    ⟨some 24, .call 35 [.t 23] [] [], none⟩,
    ⟨some 22, .mv (.t 24), none⟩,
    ⟨some 25, .ext 0 (.t 22), none⟩,
    ⟨some 26, .ext 1 (.t 22), none⟩,
    ⟨some 7, .mv (.t 25), none⟩,
    ⟨some 8, .mv (.t 26), none⟩] [1, 4, 5, 6, 7, 8] [1, 6])
  (.seq (.seq (.reg [⟨some 27, .mv (.t 7), none⟩,
    ⟨some 28, .mv (.t 4), none⟩,
    ⟨some 29, .bin .neq (.t 27) (.t 28), none⟩,
    ⟨some 30, .mv (.t 29), none⟩,
    ⟨some 31, .mv (.t 8), some (30, false)⟩,
    ⟨some 32, .mv (.t 5), some (30, false)⟩,
    ⟨some 33, .beq true (.t 31) (.t 32), some (30, false)⟩,
    ⟨some 34, .pick (.t 30) (.k (.bool true)) (.t 33), none⟩] [1, 6, 34] [1, 6])
  (.cond (.t 34) (.seq (.reg [⟨some 2, .mv (.k (.bool false)), none⟩] [2] [])
  (.ret)) (.skip)))
  (.seq (.seq (.regd [⟨some 35, .load true 7 (.t 6), none⟩,
    ⟨some 36, .load true 7 (.t 1), none⟩,
    ⟨some 37, .call 18 [.t 36] [] [], none⟩,
    ⟨some 38, .call 21 [.t 35, .t 37] [] [], none⟩,
    ⟨some 39, .not (.t 38), none⟩] [[], [], [1], [0, 1, 2], [0, 1, 2, 3]] [39] [])
  (.cond (.t 39) (.seq (.reg [⟨some 2, .mv (.k (.bool false)), none⟩] [2] [])
  (.ret)) (.skip)))
  (.seq (.reg [⟨some 2, .mv (.k (.bool true)), none⟩] [2] [])
  (.ret))))))))))
def laws_FnExactBoxText.m : Fn := { np := 1, body := laws_FnExactBoxText.b, res := [.tmp 2] }
def laws_FnExactBoxText.k (M : Nat → Option Body) : Prop := M 368 = some (.code laws_FnExactBoxText.m) ∧ laws_szBox.k M ∧ laws_toBox.k M ∧ laws_eqBox.k M ∧ spec_BoxText.k M ∧ impl_BoxText.k M
end Mx

/-
  What is right: stamps, registers, flags, mails, names, lists of numbers, boxes.
-/
namespace Mx
open Go
variable {M : Nat → Option Body}
def inR (a n b : Int) : Bool := decide (a ≤ n) && decide (n ≤ b)
theorem impl_within.inR (h : impl_within.k M) (n a b : Int) : run M 101 [.c (I n), .c (I a), .c (I b)] [] = some (.c (.bool (inR a n b)), []) := impl_within.says h n a b
theorem spec_l01In.inR (h : spec_l01In.k M) (n a b : Int) : run M 98 [.c (I n), .c (I a), .c (I b)] [] = some (.c (.bool (inR a n b)), []) := spec_l01In.says h n a b
def stampOk (t w : Int) : Bool := inR 0 t 100000 && inR 0 w 2
theorem impl_StampOk.says (h : impl_StampOk.k M) (t w : Int) : run M 164 [.a [I t, I w]] [] = some (.c (.bool (stampOk t w)), []) := by
  have h1 := impl_within.inR h.2 t 0 100000
  have h2 := impl_within.inR h.2 w 0 2
  refine run_code (b := impl_StampOk.m) h.1 ⟨0, ?_⟩
  cases c : inR 0 t 100000 <;> simp (maxSteps := 1000000) (disch := (first | omega | (simp; done) | (simp; omega))) [exB, impl_StampOk.m, impl_StampOk.b, List.range_succ, bs_get, List.take_of_length_le, setAt, str_add, h1, h2, c, stampOk]
theorem spec_StampOk.says (h : spec_StampOk.k M) (t w : Int) : run M 183 [.a [I t, I w]] [] = some (.c (.bool (stampOk t w)), []) := by
  have h1 := spec_l01In.inR h.2 t 0 100000
  have h2 := spec_l01In.inR h.2 w 0 2
  refine run_code (b := spec_StampOk.m) h.1 ⟨0, ?_⟩
  cases c : inR 0 t 100000 <;> simp (maxSteps := 1000000) (disch := (first | omega | (simp; done) | (simp; omega))) [exB, spec_StampOk.m, spec_StampOk.b, List.range_succ, bs_get, List.take_of_length_le, setAt, str_add, h1, h2, c, stampOk]
def regOk (r : Reg) : Bool := stampOk r.time r.who && inR 0 r.val 1000000000
theorem impl_RegOk.says (h : impl_RegOk.k M) (r : Reg) : run M 272 [.a (encReg r)] [] = some (.c (.bool (regOk r)), []) := by
  have h1 := impl_StampOk.says h.2.2 r.time r.who
  have h2 := impl_within.inR h.2.1 r.val 0 1000000000
  refine run_code (b := impl_RegOk.m) h.1 ⟨0, ?_⟩
  cases c : stampOk r.time r.who <;> simp (maxSteps := 1000000) (disch := (first | omega | (simp; done) | (simp; omega))) [exB, impl_RegOk.m, impl_RegOk.b, List.range_succ, bs_get, List.take_of_length_le, setAt, str_add, h1, h2, c, regOk]
theorem spec_RegOk.says (h : spec_RegOk.k M) (r : Reg) : run M 276 [.a (encReg r)] [] = some (.c (.bool (regOk r)), []) := by
  have h1 := spec_StampOk.says h.2.2 r.time r.who
  have h2 := spec_l01In.inR h.2.1 r.val 0 1000000000
  refine run_code (b := spec_RegOk.m) h.1 ⟨0, ?_⟩
  cases c : stampOk r.time r.who <;> simp (maxSteps := 1000000) (disch := (first | omega | (simp; done) | (simp; omega))) [exB, spec_RegOk.m, spec_RegOk.b, List.range_succ, bs_get, List.take_of_length_le, setAt, str_add, h1, h2, c, regOk]

/-! ## flags -/
def badFlag (l : List Reg) (i : Nat) : Bool := match l[i]? with
  | some r => !regOk r || decide (1 < r.val)
  | none => false
def flagsOk (l : List Reg) : Bool := (firstN (badFlag l) l.length).isNone && decide (l.length = 3)
theorem badFlag_at {l : List Reg} {i : Nat} (h : i < l.length) : badFlag l i = (!regOk l[i] || decide (1 < l[i].val)) := by simp [badFlag, h]
def ifS (l : List Reg) (i : Nat) (x : Nat) : St := { t := [(0, .c (regs l)), (5, .c (regs l)), (6, .c (I l.length)), (7, .c (I i))], o := [], n := x }
def ifE (l : List Reg) (x : Nat) : St := { t := [(0, .c (regs l)), (5, .c (regs l)), (6, .c (I l.length)), (7, .c (I l.length)), (8, .c (.bool false))], o := [], n := x }
theorem impl_FlagsOk.says (h : impl_FlagsOk.k M) (l : List Reg) (hl : l.length ≤ 1048576) : run M 235 [.c (regs l)] [] = some (.c (.bool (flagsOk l)), []) := by
  refine run_code (b := impl_FlagsOk.m) h.1 ⟨l.length + 1, ?_⟩
  obtain ⟨g, hr⟩ := early_loop (f := exC (run M) (l.length + 1) impl_FlagsOk.l0) l.length (badFlag l) (ifS l) 2 (.bool false) 0 (ifE l)
    (fun i hi x c => by
      have e5 : IntKind.i64.wrap ((i : Int) + 1) = (i : Int) + 1 := wrap_i64 (by omega) (by omega)
      have hm := impl_RegOk.says h.2 l[i]
      rw [badFlag_at hi] at c
      simp at c
      simp only [encReg, c.1] at hm
      have c2 : ¬ (1 : Int) < l[i].val := by omega
      simp (maxSteps := 1000000) (disch := (first | omega | (simp; done) | (simp; omega))) [impl_FlagsOk.l0, List.range_succ, bs_get, List.take_of_length_le, setAt, str_add, ifS, hi, hm, encReg, c, c2, e5])
    (fun i hi x c => by
      have hm := impl_RegOk.says h.2 l[i]
      rw [badFlag_at hi] at c
      cases c1 : regOk l[i]
      · simp only [encReg, c1] at hm
        simp (maxSteps := 1000000) (disch := (first | omega | (simp; done) | (simp; omega))) [impl_FlagsOk.l0, List.range_succ, bs_get, List.take_of_length_le, setAt, str_add, ifS, hi, hm, encReg, c1]
      · simp [c1] at c
        simp only [encReg, c1] at hm
        simp (maxSteps := 1000000) (disch := (first | omega | (simp; done) | (simp; omega))) [impl_FlagsOk.l0, List.range_succ, bs_get, List.take_of_length_le, setAt, str_add, ifS, hi, hm, encReg, c1, c])
    (fun x => by simp (maxSteps := 1000000) (disch := (first | omega | (simp; done) | (simp; omega))) [impl_FlagsOk.l0, List.range_succ, bs_get, List.take_of_length_le, setAt, str_add, ifS, ifE])
  cases q : firstN (badFlag l) l.length with
  | none =>
    simp [ifS, ifE, q, fin1] at hr
    simp (maxSteps := 1000000) (disch := (first | omega | (simp; done) | (simp; omega))) [exB, impl_FlagsOk.m, impl_FlagsOk.b, List.range_succ, bs_get, List.take_of_length_le, setAt, str_add, hr, flagsOk, q]
    omega
  | some k =>
    simp [ifS, q, fin1] at hr
    simp (maxSteps := 1000000) (disch := (first | omega | (simp; done) | (simp; omega))) [exB, impl_FlagsOk.m, impl_FlagsOk.b, List.range_succ, bs_get, List.take_of_length_le, setAt, str_add, hr, flagsOk, q]
def sfS (l : List Reg) (i : Nat) (x : Nat) : St := { t := [(0, .c (regs l)), (3, .c (I i))], o := [], n := x }
def sfE (l : List Reg) (x : Nat) : St := { t := [(0, .c (regs l)), (3, .c (I l.length)), (7, .c (.bool false))], o := [], n := x }
theorem spec_FlagsOk.says (h : spec_FlagsOk.k M) (l : List Reg) (hl : l.length ≤ 1048576) : run M 242 [.c (regs l)] [] = some (.c (.bool (flagsOk l)), []) := by
  refine run_code (b := spec_FlagsOk.m) h.1 ⟨l.length + 1, ?_⟩
  obtain ⟨g, hr⟩ := early_loop (f := exC (run M) (l.length + 1) spec_FlagsOk.l0) l.length (badFlag l) (sfS l) 2 (.bool false) 0 (sfE l)
    (fun i hi x c => by
      have e5 : IntKind.i64.wrap ((i : Int) + 1) = (i : Int) + 1 := wrap_i64 (by omega) (by omega)
      have hm := spec_RegOk.says h.2 l[i]
      rw [badFlag_at hi] at c
      simp at c
      simp only [encReg, c.1] at hm
      have c2 : ¬ (1 : Int) < l[i].val := by omega
      simp (maxSteps := 1000000) (disch := (first | omega | (simp; done) | (simp; omega))) [spec_FlagsOk.l0, List.range_succ, bs_get, List.take_of_length_le, setAt, str_add, sfS, hi, hm, encReg, c, c2, e5])
    (fun i hi x c => by
      have hm := spec_RegOk.says h.2 l[i]
      rw [badFlag_at hi] at c
      cases c1 : regOk l[i]
      · simp only [encReg, c1] at hm
        simp (maxSteps := 1000000) (disch := (first | omega | (simp; done) | (simp; omega))) [spec_FlagsOk.l0, List.range_succ, bs_get, List.take_of_length_le, setAt, str_add, sfS, hi, hm, encReg, c1]
      · simp [c1] at c
        simp only [encReg, c1] at hm
        simp (maxSteps := 1000000) (disch := (first | omega | (simp; done) | (simp; omega))) [spec_FlagsOk.l0, List.range_succ, bs_get, List.take_of_length_le, setAt, str_add, sfS, hi, hm, encReg, c1, c])
    (fun x => by simp (maxSteps := 1000000) (disch := (first | omega | (simp; done) | (simp; omega))) [spec_FlagsOk.l0, List.range_succ, bs_get, List.take_of_length_le, setAt, str_add, sfS, sfE])
  cases q : firstN (badFlag l) l.length with
  | none =>
    simp [sfS, sfE, q, fin1] at hr
    simp (maxSteps := 1000000) (disch := (first | omega | (simp; done) | (simp; omega))) [exB, spec_FlagsOk.m, spec_FlagsOk.b, List.range_succ, bs_get, List.take_of_length_le, setAt, str_add, hr, flagsOk, q]
    omega
  | some k =>
    simp [sfS, q, fin1] at hr
    simp (maxSteps := 1000000) (disch := (first | omega | (simp; done) | (simp; omega))) [exB, spec_FlagsOk.m, spec_FlagsOk.b, List.range_succ, bs_get, List.take_of_length_le, setAt, str_add, hr, flagsOk, q]

/-! ## mails -/
theorem impl_isGid.says (h : impl_isGid.k M) (n : Int) : run M 147 [.c (I n)] [] = some (.c (.bool (inR 1 n 9999)), []) := by
  have h1 := impl_within.inR h.2 n 1 9999
  refine run_code (b := impl_isGid.m) h.1 ⟨0, ?_⟩
  simp (maxSteps := 1000000) (disch := (first | omega | (simp; done) | (simp; omega))) [exB, impl_isGid.m, impl_isGid.b, List.range_succ, bs_get, List.take_of_length_le, setAt, str_add, h1]
def mailOk (m : Mail) : Bool := inR 1 m.gid 9999 && inR 1 m.uid 9999 && flagsOk m.flags && decide (m.text.length ≤ 60)
theorem impl_MailOk.says (h : impl_MailOk.k M) (m : Mail) (hl : m.flags.length ≤ 1048576) : run M 166 [.a (encMail m)] [] = some (.c (.bool (mailOk m)), []) := by
  have h1 := impl_isGid.says h.2.1 m.gid
  have h2 := impl_isGid.says h.2.1 m.uid
  have h3 := impl_FlagsOk.says h.2.2 m.flags hl
  refine run_code (b := impl_MailOk.m) h.1 ⟨0, ?_⟩
  cases c1 : inR 1 m.gid 9999
  · simp (maxSteps := 1000000) (disch := (first | omega | (simp; done) | (simp; omega))) [exB, impl_MailOk.m, impl_MailOk.b, List.range_succ, bs_get, List.take_of_length_le, setAt, str_add, h1, c1, mailOk]
  cases c2 : inR 1 m.uid 9999
  · simp (maxSteps := 1000000) (disch := (first | omega | (simp; done) | (simp; omega))) [exB, impl_MailOk.m, impl_MailOk.b, List.range_succ, bs_get, List.take_of_length_le, setAt, str_add, h1, h2, c1, c2, mailOk]
  cases c3 : flagsOk m.flags
  · simp (maxSteps := 1000000) (disch := (first | omega | (simp; done) | (simp; omega))) [exB, impl_MailOk.m, impl_MailOk.b, List.range_succ, bs_get, List.take_of_length_le, setAt, str_add, h1, h2, h3, c1, c2, c3, mailOk]
  simp (maxSteps := 1000000) (disch := (first | omega | (simp; done) | (simp; omega))) [exB, impl_MailOk.m, impl_MailOk.b, List.range_succ, bs_get, List.take_of_length_le, setAt, str_add, h1, h2, h3, c1, c2, c3, mailOk]
  omega
theorem spec_MailOk.says (h : spec_MailOk.k M) (m : Mail) (hl : m.flags.length ≤ 1048576) : run M 187 [.a (encMail m)] [] = some (.c (.bool (mailOk m)), []) := by
  have h1 := spec_l01In.inR h.2.1 m.gid 1 9999
  have h2 := spec_l01In.inR h.2.1 m.uid 1 9999
  have h3 := spec_FlagsOk.says h.2.2 m.flags hl
  refine run_code (b := spec_MailOk.m) h.1 ⟨0, ?_⟩
  cases c1 : inR 1 m.gid 9999
  · simp (maxSteps := 1000000) (disch := (first | omega | (simp; done) | (simp; omega))) [exB, spec_MailOk.m, spec_MailOk.b, List.range_succ, bs_get, List.take_of_length_le, setAt, str_add, h1, c1, mailOk]
  cases c2 : inR 1 m.uid 9999
  · simp (maxSteps := 1000000) (disch := (first | omega | (simp; done) | (simp; omega))) [exB, spec_MailOk.m, spec_MailOk.b, List.range_succ, bs_get, List.take_of_length_le, setAt, str_add, h1, h2, c1, c2, mailOk]
  cases c3 : flagsOk m.flags
  · simp (maxSteps := 1000000) (disch := (first | omega | (simp; done) | (simp; omega))) [exB, spec_MailOk.m, spec_MailOk.b, List.range_succ, bs_get, List.take_of_length_le, setAt, str_add, h1, h2, h3, c1, c2, c3, mailOk]
  simp (maxSteps := 1000000) (disch := (first | omega | (simp; done) | (simp; omega))) [exB, spec_MailOk.m, spec_MailOk.b, List.range_succ, bs_get, List.take_of_length_le, setAt, str_add, h1, h2, h3, c1, c2, c3, mailOk]
  omega

/-! ## names, lists of numbers -/
def badSign (l : List UInt8) (i : Nat) : Bool := match l[i]? with
  | some b => (decide ((b.toNat : Int) < 97) || decide (122 < (b.toNat : Int))) && (decide ((b.toNat : Int) < 48) || decide (57 < (b.toNat : Int)))
  | none => false
theorem badSign_at {l : List UInt8} {i : Nat} (h : i < l.length) :
    badSign l i = ((decide ((l[i].toNat : Int) < 97) || decide (122 < (l[i].toNat : Int))) && (decide ((l[i].toNat : Int) < 48) || decide (57 < (l[i].toNat : Int)))) := by simp [badSign, h]
def nameOk (l : List UInt8) : Bool := (firstN (badSign l) l.length).isNone && inR 1 l.length 12

def inSS (l : List UInt8) (i : Nat) (x : Nat) : St := { t := [(0, .c (S l)), (3, .c (I i))], o := [], n := x }
def inSE (l : List UInt8) (x : Nat) : St := { t := [(0, .c (S l)), (3, .c (I l.length)), (7, .c (.bool false))], o := [], n := x }
theorem impl_NameOk.says (h : impl_NameOk.k M) (l : List UInt8) (hl : l.length ≤ 4611686018427387904) : run M 89 [.c (S l)] [] = some (.c (.bool (nameOk l)), []) := by
  have h1 := impl_within.inR h.2 l.length 1 12
  refine run_code (b := impl_NameOk.m) h.1 ⟨l.length + 1, ?_⟩
  obtain ⟨g, hr⟩ := early_loop (f := exC (run M) (l.length + 1) impl_NameOk.l0) l.length (badSign l) (inSS l) 2 (.bool false) 0 (inSE l)
    (fun i hi x c => by
      have e5 : IntKind.i64.wrap ((i : Int) + 1) = (i : Int) + 1 := wrap_i64 (by omega) (by omega)
      rw [badSign_at hi] at c
      generalize hb : ((l[i].toNat : Nat) : Int) = b at c
      by_cases c1 : b < 97
      · by_cases c2 : b < 48
        · simp [c1, c2] at c
        · by_cases c3 : 57 < b
          · simp [c1, c2, c3] at c
          · simp (maxSteps := 1000000) (disch := (first | omega | (simp; done) | (simp; omega))) [impl_NameOk.l0, List.range_succ, bs_get, List.take_of_length_le, setAt, str_add, inSS, hi, e5, hb, c1, c2, c3]
      · by_cases c4 : 122 < b
        · have c3 : 57 < b := by omega
          simp [c1, c4, c3] at c
        · simp (maxSteps := 1000000) (disch := (first | omega | (simp; done) | (simp; omega))) [impl_NameOk.l0, List.range_succ, bs_get, List.take_of_length_le, setAt, str_add, inSS, hi, e5, hb, c1, c4])
    (fun i hi x c => by
      rw [badSign_at hi] at c
      generalize hb : ((l[i].toNat : Nat) : Int) = b at c
      by_cases c1 : b < 97
      · by_cases c2 : b < 48
        · simp (maxSteps := 1000000) (disch := (first | omega | (simp; done) | (simp; omega))) [impl_NameOk.l0, List.range_succ, bs_get, List.take_of_length_le, setAt, str_add, inSS, hi, hb, c1, c2]
        · by_cases c3 : 57 < b
          · simp (maxSteps := 1000000) (disch := (first | omega | (simp; done) | (simp; omega))) [impl_NameOk.l0, List.range_succ, bs_get, List.take_of_length_le, setAt, str_add, inSS, hi, hb, c1, c2, c3]
          · simp [c1, c2, c3] at c
      · by_cases c4 : 122 < b
        · have c2 : ¬ b < 48 := by omega
          have c3 : 57 < b := by omega
          simp (maxSteps := 1000000) (disch := (first | omega | (simp; done) | (simp; omega))) [impl_NameOk.l0, List.range_succ, bs_get, List.take_of_length_le, setAt, str_add, inSS, hi, hb, c1, c2, c3, c4]
        · simp [c1, c4] at c)
    (fun x => by simp (maxSteps := 1000000) (disch := (first | omega | (simp; done) | (simp; omega))) [impl_NameOk.l0, List.range_succ, bs_get, List.take_of_length_le, setAt, str_add, inSS, inSE])
  cases q : firstN (badSign l) l.length with
  | none =>
    simp [inSS, inSE, q, fin1] at hr
    simp (maxSteps := 1000000) (disch := (first | omega | (simp; done) | (simp; omega))) [exB, impl_NameOk.m, impl_NameOk.b, List.range_succ, bs_get, List.take_of_length_le, setAt, str_add, hr, nameOk, q, h1]
  | some k =>
    simp [inSS, q, fin1] at hr
    simp (maxSteps := 1000000) (disch := (first | omega | (simp; done) | (simp; omega))) [exB, impl_NameOk.m, impl_NameOk.b, List.range_succ, bs_get, List.take_of_length_le, setAt, str_add, hr, nameOk, q]

def snSS (l : List UInt8) (i : Nat) (x : Nat) : St := { t := [(0, .c (S l)), (3, .c (I i))], o := [], n := x }
def snSE (l : List UInt8) (x : Nat) : St := { t := [(0, .c (S l)), (3, .c (I l.length)), (7, .c (.bool false))], o := [], n := x }
theorem spec_NameOk.says (h : spec_NameOk.k M) (l : List UInt8) (hl : l.length ≤ 4611686018427387904) : run M 90 [.c (S l)] [] = some (.c (.bool (nameOk l)), []) := by
  have h1 := spec_l01In.inR h.2 l.length 1 12
  refine run_code (b := spec_NameOk.m) h.1 ⟨l.length + 1, ?_⟩
  obtain ⟨g, hr⟩ := early_loop (f := exC (run M) (l.length + 1) spec_NameOk.l0) l.length (badSign l) (snSS l) 2 (.bool false) 0 (snSE l)
    (fun i hi x c => by
      have e5 : IntKind.i64.wrap ((i : Int) + 1) = (i : Int) + 1 := wrap_i64 (by omega) (by omega)
      rw [badSign_at hi] at c
      generalize hb : ((l[i].toNat : Nat) : Int) = b at c
      by_cases c1 : b < 97
      · by_cases c2 : b < 48
        · simp [c1, c2] at c
        · by_cases c3 : 57 < b
          · simp [c1, c2, c3] at c
          · simp (maxSteps := 1000000) (disch := (first | omega | (simp; done) | (simp; omega))) [spec_NameOk.l0, List.range_succ, bs_get, List.take_of_length_le, setAt, str_add, snSS, hi, e5, hb, c1, c2, c3]
      · by_cases c4 : 122 < b
        · have c3 : 57 < b := by omega
          simp [c1, c4, c3] at c
        · simp (maxSteps := 1000000) (disch := (first | omega | (simp; done) | (simp; omega))) [spec_NameOk.l0, List.range_succ, bs_get, List.take_of_length_le, setAt, str_add, snSS, hi, e5, hb, c1, c4])
    (fun i hi x c => by
      rw [badSign_at hi] at c
      generalize hb : ((l[i].toNat : Nat) : Int) = b at c
      by_cases c1 : b < 97
      · by_cases c2 : b < 48
        · simp (maxSteps := 1000000) (disch := (first | omega | (simp; done) | (simp; omega))) [spec_NameOk.l0, List.range_succ, bs_get, List.take_of_length_le, setAt, str_add, snSS, hi, hb, c1, c2]
        · by_cases c3 : 57 < b
          · simp (maxSteps := 1000000) (disch := (first | omega | (simp; done) | (simp; omega))) [spec_NameOk.l0, List.range_succ, bs_get, List.take_of_length_le, setAt, str_add, snSS, hi, hb, c1, c2, c3]
          · simp [c1, c2, c3] at c
      · by_cases c4 : 122 < b
        · have c2 : ¬ b < 48 := by omega
          have c3 : 57 < b := by omega
          simp (maxSteps := 1000000) (disch := (first | omega | (simp; done) | (simp; omega))) [spec_NameOk.l0, List.range_succ, bs_get, List.take_of_length_le, setAt, str_add, snSS, hi, hb, c1, c2, c3, c4]
        · simp [c1, c4] at c)
    (fun x => by simp (maxSteps := 1000000) (disch := (first | omega | (simp; done) | (simp; omega))) [spec_NameOk.l0, List.range_succ, bs_get, List.take_of_length_le, setAt, str_add, snSS, snSE])
  cases q : firstN (badSign l) l.length with
  | none =>
    simp [snSS, snSE, q, fin1] at hr
    simp (maxSteps := 1000000) (disch := (first | omega | (simp; done) | (simp; omega))) [exB, spec_NameOk.m, spec_NameOk.b, List.range_succ, bs_get, List.take_of_length_le, setAt, str_add, hr, nameOk, q, h1]
  | some k =>
    simp [snSS, q, fin1] at hr
    simp (maxSteps := 1000000) (disch := (first | omega | (simp; done) | (simp; omega))) [exB, spec_NameOk.m, spec_NameOk.b, List.range_succ, bs_get, List.take_of_length_le, setAt, str_add, hr, nameOk, q]

def badGid (l : List Int) (i : Nat) : Bool := match l[i]? with
  | some g => !inR 1 g 9999 || (decide (0 < i) && match l[i - 1]? with | some f => decide (g ≤ f) | none => false)
  | none => false
theorem badGid_at {l : List Int} {i : Nat} (h : i < l.length) : badGid l i = (!inR 1 l[i] 9999 || (decide (0 < i) && decide (l[i] ≤ l[i - 1]))) := by
  simp [badGid, h, (show i - 1 < l.length by omega)]
def gidsOk (l : List Int) (most : Int) : Bool := (firstN (badGid l) l.length).isNone && decide ((l.length : Int) ≤ most)

def agS (l : List Int) (most : Int) (i : Nat) (x : Nat) : St := { t := [(0, .c (ints l)), (1, .c (I most)), (7, .c (ints l)), (8, .c (I l.length)), (9, .c (I i))], o := [], n := x }
def agE (l : List Int) (most : Int) (x : Nat) : St := { t := [(0, .c (ints l)), (1, .c (I most)), (7, .c (ints l)), (8, .c (I l.length)), (9, .c (I l.length)), (10, .c (.bool false))], o := [], n := x }
theorem impl_areGids.says (h : impl_areGids.k M) (l : List Int) (most : Int) (hl : l.length ≤ 4611686018427387904) : run M 165 [.c (ints l), .c (I most)] [] = some (.c (.bool (gidsOk l most)), []) := by
  refine run_code (b := impl_areGids.m) h.1 ⟨l.length + 1, ?_⟩
  obtain ⟨g, hr⟩ := early_loop (f := exC (run M) (l.length + 1) impl_areGids.l0) l.length (badGid l) (agS l most) 4 (.bool false) 0 (agE l most)
    (fun i hi x c => by
      have e5 : IntKind.i64.wrap ((i : Int) + 1) = (i : Int) + 1 := wrap_i64 (by omega) (by omega)
      have hm := impl_isGid.says h.2 l[i]
      rw [badGid_at hi] at c
      simp at c
      simp only [c.1] at hm
      by_cases c1 : 0 < i
      · have c2 : ¬ l[i] ≤ l[i - 1] := by have := c.2 c1; omega
        have e6 : IntKind.i64.wrap ((i : Int) - 1) = ((i - 1 : Nat) : Int) := by rw [wrap_i64 (by omega) (by omega)]; omega
        simp (maxSteps := 1000000) (disch := (first | omega | (simp; done) | (simp; omega))) [impl_areGids.l0, List.range_succ, bs_get, List.take_of_length_le, setAt, str_add, agS, hi, hm, c1, c2, e5, e6, (show i - 1 < l.length by omega)]
      · simp (maxSteps := 1000000) (disch := (first | omega | (simp; done) | (simp; omega))) [impl_areGids.l0, List.range_succ, bs_get, List.take_of_length_le, setAt, str_add, agS, hi, hm, c1, e5])
    (fun i hi x c => by
      have hm := impl_isGid.says h.2 l[i]
      rw [badGid_at hi] at c
      cases c1 : inR 1 l[i] 9999
      · simp only [c1] at hm
        simp (maxSteps := 1000000) (disch := (first | omega | (simp; done) | (simp; omega))) [impl_areGids.l0, List.range_succ, bs_get, List.take_of_length_le, setAt, str_add, agS, hi, hm]
      · simp [c1] at c
        obtain ⟨c2, c3⟩ := c
        simp only [c1] at hm
        have e6 : IntKind.i64.wrap ((i : Int) - 1) = ((i - 1 : Nat) : Int) := by rw [wrap_i64 (by omega) (by omega)]; omega
        simp (maxSteps := 1000000) (disch := (first | omega | (simp; done) | (simp; omega))) [impl_areGids.l0, List.range_succ, bs_get, List.take_of_length_le, setAt, str_add, agS, hi, hm, c2, c3, e6, (show i - 1 < l.length by omega)])
    (fun x => by simp (maxSteps := 1000000) (disch := (first | omega | (simp; done) | (simp; omega))) [impl_areGids.l0, List.range_succ, bs_get, List.take_of_length_le, setAt, str_add, agS, agE])
  cases q : firstN (badGid l) l.length with
  | none =>
    simp [agS, agE, q, fin1] at hr
    simp (maxSteps := 1000000) (disch := (first | omega | (simp; done) | (simp; omega))) [exB, impl_areGids.m, impl_areGids.b, List.range_succ, bs_get, List.take_of_length_le, setAt, str_add, hr, gidsOk, q]
  | some k =>
    simp [agS, q, fin1] at hr
    simp (maxSteps := 1000000) (disch := (first | omega | (simp; done) | (simp; omega))) [exB, impl_areGids.m, impl_areGids.b, List.range_succ, bs_get, List.take_of_length_le, setAt, str_add, hr, gidsOk, q]

def soS (l : List Int) (most : Int) (i : Nat) (x : Nat) : St := { t := [(0, .c (ints l)), (1, .c (I most)), (5, .c (I i))], o := [], n := x }
def soE (l : List Int) (most : Int) (x : Nat) : St := { t := [(0, .c (ints l)), (1, .c (I most)), (5, .c (I l.length)), (9, .c (.bool false))], o := [], n := x }
theorem spec_l06Sorted.says (h : spec_l06Sorted.k M) (l : List Int) (most : Int) (hl : l.length ≤ 4611686018427387904) : run M 186 [.c (ints l), .c (I most)] [] = some (.c (.bool (gidsOk l most)), []) := by
  refine run_code (b := spec_l06Sorted.m) h.1 ⟨l.length + 1, ?_⟩
  obtain ⟨g, hr⟩ := early_loop (f := exC (run M) (l.length + 1) spec_l06Sorted.l0) l.length (badGid l) (soS l most) 4 (.bool false) 0 (soE l most)
    (fun i hi x c => by
      have e5 : IntKind.i64.wrap ((i : Int) + 1) = (i : Int) + 1 := wrap_i64 (by omega) (by omega)
      have hm := spec_l01In.inR h.2 l[i] 1 9999
      rw [badGid_at hi] at c
      simp at c
      simp only [c.1] at hm
      by_cases c1 : 0 < i
      · have c2 : ¬ l[i] ≤ l[i - 1] := by have := c.2 c1; omega
        have e6 : IntKind.i64.wrap ((i : Int) - 1) = ((i - 1 : Nat) : Int) := by rw [wrap_i64 (by omega) (by omega)]; omega
        simp (maxSteps := 1000000) (disch := (first | omega | (simp; done) | (simp; omega))) [spec_l06Sorted.l0, List.range_succ, bs_get, List.take_of_length_le, setAt, str_add, soS, hi, hm, c1, c2, e5, e6, (show i - 1 < l.length by omega)]
      · simp (maxSteps := 1000000) (disch := (first | omega | (simp; done) | (simp; omega))) [spec_l06Sorted.l0, List.range_succ, bs_get, List.take_of_length_le, setAt, str_add, soS, hi, hm, c1, e5])
    (fun i hi x c => by
      have hm := spec_l01In.inR h.2 l[i] 1 9999
      rw [badGid_at hi] at c
      cases c1 : inR 1 l[i] 9999
      · simp only [c1] at hm
        simp (maxSteps := 1000000) (disch := (first | omega | (simp; done) | (simp; omega))) [spec_l06Sorted.l0, List.range_succ, bs_get, List.take_of_length_le, setAt, str_add, soS, hi, hm]
      · simp [c1] at c
        obtain ⟨c2, c3⟩ := c
        simp only [c1] at hm
        have e6 : IntKind.i64.wrap ((i : Int) - 1) = ((i - 1 : Nat) : Int) := by rw [wrap_i64 (by omega) (by omega)]; omega
        simp (maxSteps := 1000000) (disch := (first | omega | (simp; done) | (simp; omega))) [spec_l06Sorted.l0, List.range_succ, bs_get, List.take_of_length_le, setAt, str_add, soS, hi, hm, c2, c3, e6, (show i - 1 < l.length by omega)])
    (fun x => by simp (maxSteps := 1000000) (disch := (first | omega | (simp; done) | (simp; omega))) [spec_l06Sorted.l0, List.range_succ, bs_get, List.take_of_length_le, setAt, str_add, soS, soE])
  cases q : firstN (badGid l) l.length with
  | none =>
    simp [soS, soE, q, fin1] at hr
    simp (maxSteps := 1000000) (disch := (first | omega | (simp; done) | (simp; omega))) [exB, spec_l06Sorted.m, spec_l06Sorted.b, List.range_succ, bs_get, List.take_of_length_le, setAt, str_add, hr, gidsOk, q]
  | some k =>
    simp [soS, q, fin1] at hr
    simp (maxSteps := 1000000) (disch := (first | omega | (simp; done) | (simp; omega))) [exB, spec_l06Sorted.m, spec_l06Sorted.b, List.range_succ, bs_get, List.take_of_length_le, setAt, str_add, hr, gidsOk, q]

def isAt (l : List Int) (g : Int) (i : Nat) : Bool := match l[i]? with
  | some x => decide (x = g)
  | none => false
theorem isAt_at {l : List Int} {g : Int} {i : Nat} (h : i < l.length) : isAt l g i = decide (l[i] = g) := by simp [isAt, h]
theorem isAt_mem (l : List Int) (g : Int) : (firstN (isAt l g) l.length).isSome = decide (g ∈ l) := by
  rw [Bool.eq_iff_iff]
  simp only [decide_eq_true_eq]
  cases q : firstN (isAt l g) l.length with
  | none =>
    have := firstN_none q
    refine ⟨fun h => by simp at h, fun h => ?_⟩
    obtain ⟨i, hi, e⟩ := List.getElem_of_mem h
    have h1 := this i hi
    rw [isAt_at hi] at h1
    simp [e] at h1
  | some k =>
    obtain ⟨h1, h2, _⟩ := firstN_some q
    rw [isAt_at h1] at h2
    simp at h2
    refine ⟨fun _ => ?_, fun _ => rfl⟩
    rw [← h2]; exact List.getElem_mem h1
def siS (l : List Int) (g : Int) (i : Nat) (x : Nat) : St := { t := [(0, .c (ints l)), (1, .c (I g)), (5, .c (I i))], o := [], n := x }
def siE (l : List Int) (g : Int) (x : Nat) : St := { t := [(0, .c (ints l)), (1, .c (I g)), (5, .c (I l.length)), (9, .c (.bool false))], o := [], n := x }
theorem spec_l06In.says (h : spec_l06In.k M) (l : List Int) (g : Int) (hl : l.length ≤ 4611686018427387904) : run M 132 [.c (ints l), .c (I g)] [] = some (.c (.bool (decide (g ∈ l))), []) := by
  refine run_code (b := spec_l06In.m) h ⟨l.length + 1, ?_⟩
  obtain ⟨g', hr⟩ := early_loop (f := exC (run M) (l.length + 1) spec_l06In.l0) l.length (isAt l g) (siS l g) 4 (.bool true) 0 (siE l g)
    (fun i hi x c => by
      have e5 : IntKind.i64.wrap ((i : Int) + 1) = (i : Int) + 1 := wrap_i64 (by omega) (by omega)
      rw [isAt_at hi] at c
      simp at c
      simp (maxSteps := 1000000) (disch := (first | omega | (simp; done) | (simp; omega))) [spec_l06In.l0, List.range_succ, bs_get, List.take_of_length_le, setAt, str_add, siS, hi, e5, c])
    (fun i hi x c => by
      rw [isAt_at hi] at c
      simp at c
      simp (maxSteps := 1000000) (disch := (first | omega | (simp; done) | (simp; omega))) [spec_l06In.l0, List.range_succ, bs_get, List.take_of_length_le, setAt, str_add, siS, hi, c])
    (fun x => by simp (maxSteps := 1000000) (disch := (first | omega | (simp; done) | (simp; omega))) [spec_l06In.l0, List.range_succ, bs_get, List.take_of_length_le, setAt, str_add, siS, siE])
  have hm := isAt_mem l g
  rw [← hm]
  cases q : firstN (isAt l g) l.length with
  | none =>
    simp [siS, siE, q, fin1] at hr
    simp (maxSteps := 1000000) (disch := (first | omega | (simp; done) | (simp; omega))) [exB, spec_l06In.m, spec_l06In.b, List.range_succ, bs_get, List.take_of_length_le, setAt, str_add, hr]
  | some k =>
    simp [siS, q, fin1] at hr
    simp (maxSteps := 1000000) (disch := (first | omega | (simp; done) | (simp; omega))) [exB, spec_l06In.m, spec_l06In.b, List.range_succ, bs_get, List.take_of_length_le, setAt, str_add, hr]
def xiS (l : List Int) (g : Int) (i : Nat) (x : Nat) : St := { t := [(0, .c (ints l)), (1, .c (I g)), (7, .c (I l.length)), (8, .c (I i))], o := [], n := x }
theorem slices_Index_int_int.says (h : slices_Index_int_int.k M) (l : List Int) (g : Int) (hl : l.length ≤ 4611686018427387904) : run M 234 [.c (ints l), .c (I g)] [] = some (.c (I (intO (firstN (isAt l g) l.length))), []) := by
  refine run_code (b := slices_Index_int_int.m) h ⟨l.length + 1, ?_⟩
  obtain ⟨g', hr⟩ := first_loop (f := exC (run M) (l.length + 1) slices_Index_int_int.l0) l.length (isAt l g) (xiS l g) atFin atFin_ne
    (fun i hi x c => by
      have e5 : IntKind.i64.wrap ((i : Int) + 1) = (i : Int) + 1 := wrap_i64 (by omega) (by omega)
      rw [isAt_at hi] at c
      simp at c
      have c' : ¬ g = l[i] := fun q => c q.symm
      simp (maxSteps := 1000000) (disch := (first | omega | (simp; done) | (simp; omega))) [slices_Index_int_int.l0, List.range_succ, bs_get, List.take_of_length_le, setAt, str_add, xiS, hi, e5, c, c'])
    (fun i hi x c => by
      rw [isAt_at hi] at c
      simp at c
      simp (maxSteps := 1000000) (disch := (first | omega | (simp; done) | (simp; omega))) [slices_Index_int_int.l0, List.range_succ, bs_get, List.take_of_length_le, setAt, str_add, xiS, hi, c, atFin]
      exact ⟨⟨[], [], _⟩, rfl⟩)
    (fun x => by simp (maxSteps := 1000000) (disch := (first | omega | (simp; done) | (simp; omega))) [slices_Index_int_int.l0, List.range_succ, bs_get, List.take_of_length_le, setAt, str_add, xiS, atFin])
  cases q : firstN (isAt l g) l.length with
  | none =>
    simp [xiS, q, atFin] at hr
    simp (maxSteps := 1000000) (disch := (first | omega | (simp; done) | (simp; omega))) [exB, slices_Index_int_int.m, slices_Index_int_int.b, List.range_succ, bs_get, List.take_of_length_le, setAt, str_add, hr, intO]
  | some k =>
    simp [xiS, q, atFin] at hr
    simp (maxSteps := 1000000) (disch := (first | omega | (simp; done) | (simp; omega))) [exB, slices_Index_int_int.m, slices_Index_int_int.b, List.range_succ, bs_get, List.take_of_length_le, setAt, str_add, hr, intO]
theorem intO_pos (q : Option Nat) : decide (0 ≤ intO q) = q.isSome := by cases q <;> simp [intO]
theorem slices_Contains_int_int.says (h : slices_Contains_int_int.k M) (l : List Int) (g : Int) (hl : l.length ≤ 4611686018427387904) : run M 156 [.c (ints l), .c (I g)] [] = some (.c (.bool (decide (g ∈ l))), []) := by
  have h1 := slices_Index_int_int.says h.2 l g hl
  refine run_code (b := slices_Contains_int_int.m) h.1 ⟨0, ?_⟩
  rw [← isAt_mem l g, ← intO_pos]
  simp (maxSteps := 1000000) (disch := (first | omega | (simp; done) | (simp; omega))) [exB, slices_Contains_int_int.m, slices_Contains_int_int.b, List.range_succ, bs_get, List.take_of_length_le, setAt, str_add, h1]
end Mx

/-
  A function of Go's library by its contract: numbers, truths and texts in, one of them out, memory as it was.
-/
namespace Mx
open Go

def valT : T → Option Value
  | .int k n => some (.int k n)
  | .bool b => some (.bool b)
  | .str s => some (.string s)
  | _ => none
def cellV : V → Option T
  | .c t => some t
  | _ => none
def extG (g : List T → Option T) (as : List V) (lent : List (Nat × Ob)) : Option (V × List (Nat × Ob)) :=
  if lent.isEmpty then (match mapO cellV as with | some ts => (g ts).map fun r => (.c r, []) | none => none) else none

variable {P : Program} {F : Nat → FuncId}

theorem repV_val {X : Cx} {t : T} {v x : Value} (h : RepV X (.c t) x) (hv : valT t = some v) : x = v := by
  cases h with | c _ _ h =>
  cases t <;> simp [valT] at hv <;> subst hv <;> cases h <;> rfl
theorem resT_val {X : Cx} {own : Nat → Option Loc} {lent : List (Nat × Ob)} {q : Nat} {t : T} {v : Value} (hv : valT t = some v) : ResT X own lent q t v := by
  cases t <;> simp [valT] at hv <;> subst hv
  · exact .int _ _
  · exact .bool _
  · exact .str _

theorem mapO_len {α β : Type} {f : α → Option β} : ∀ {l : List α} {r : List β}, mapO f l = some r → r.length = l.length
  | [], r, h => by simp [mapO] at h; subst h; rfl
  | a :: l, r, h => by
    simp only [mapO] at h
    split at h <;> cases h
    rename_i y ys h1 h2
    simp [mapO_len h2]
theorem mapO_at {α β : Type} {f : α → Option β} : ∀ {l : List α} {r : List β} {i : Nat} {a : α}, mapO f l = some r → l[i]? = some a → ∃ b, r[i]? = some b ∧ f a = some b
  | [], r, i, a, h, hi => by simp at hi
  | x :: l, r, i, a, h, hi => by
    simp only [mapO] at h
    split at h <;> cases h
    rename_i y ys h1 h2
    cases i with
    | zero => simp at hi; subst hi; exact ⟨y, rfl, h1⟩
    | succ i => simpa using mapO_at h2 (by simpa using hi)

theorem ext_plain {f : Nat} {g : List T → Option T} (hf : okFn P F f = true)
    (h : ∀ ts r, g ts = some r → ∃ xs x, mapO valT ts = some xs ∧ valT r = some x ∧ ∀ w, Calls P (F f) xs.toArray w fun e w' => e = .returned x ∧ w' = w) : ExtOk P F f (extG g) := by
  intro as lent res after hg
  refine ⟨hf, fun Pr E0 vals w En => ?_⟩
  unfold extG at hg
  split at hg
  · rename_i hl
    rw [List.isEmpty_iff] at hl
    subst hl
    split at hg
    · rename_i ts hts
      simp only [Option.map_eq_some_iff] at hg
      obtain ⟨r, hr, hg⟩ := hg
      cases hg
      obtain ⟨xs, x, h1, h2, h3⟩ := h ts r hr
      have hv : vals = xs.toArray := by
        apply Array.ext
        · rw [← En.n, List.size_toArray, mapO_len h1, mapO_len hts]
        · intro i hi hi'
          have hi1 : i < as.length := by rw [En.n]; exact hi
          obtain ⟨t, k1, k2⟩ := mapO_at hts (List.getElem?_eq_getElem hi1)
          obtain ⟨v, k3, k4⟩ := mapO_at h1 k1
          have k5 := En.args i as[i] vals[i] (List.getElem?_eq_getElem hi1) (Array.getElem?_eq_getElem hi)
          have e1 : as[i] = .c t := by
            cases ha : as[i] with
            | c t' => rw [ha] at k2; simp [cellV] at k2; rw [k2]
            | a ts => rw [ha] at k2; simp [cellV] at k2
            | tup ts => rw [ha] at k2; simp [cellV] at k2
            | undef => rw [ha] at k2; simp [cellV] at k2
          rw [e1] at k5
          have := repV_val k5 k4
          rw [this]
          have e2 : xs[i]? = some v := k3
          have hi2 : i < xs.length := by simpa using hi'
          rw [List.getElem?_eq_getElem hi2] at e2
          simpa using (Option.some.inj e2).symm
      subst hv
      refine (h3 w).mono ?_
      rintro e w' ⟨rfl, rfl⟩
      refine ⟨x, E0, fun _ => none, rfl, rfl, rfl, rfl, Nat.le_refl _, fun b _ _ => rfl, fun v l h => h, fun q b cap sz h => (by cases h), fun q q' b cap sz cap' sz' h => (by cases h), ?_, fun p ob ob' l h => (by simp [get] at h)⟩
      simp only [ResA, ResV]
      exact resT_val h2
    · cases hg
  · cases hg

/-- a table of codes and of contracts -/
def tabX (tab : List (Nat × Fn)) (ext : List (Nat × (List T → Option T))) (f : Nat) : Option Body := match get tab f with
  | some b => some (.code b)
  | none => (get ext f).map fun g => .ext (extG g)
theorem table_ext {tab : List (Nat × Fn)} {ext : List (Nat × (List T → Option T))} (h : ∀ p ∈ tab, okFunc P F p.1 p.2 = true) (hx : ∀ p ∈ ext, ExtOk P F p.1 (extG p.2)) : TableOk P F (tabX tab ext) := by
  intro f
  unfold tabX
  cases hg : get tab f with
  | some b => exact h _ (get_mem hg)
  | none =>
    cases hq : get ext f with
    | none => simp
    | some g => exact hx _ (get_mem hq)

theorem run_ext_plain {M : Nat → Option Body} {f : Nat} {g : List T → Option T} (hM : M f = some (.ext (extG g))) {ts : List T} {r : T} (h : g ts = some r) : run M f (ts.map .c) [] = some (.c r, []) := by
  refine run_ext hM ?_
  have : mapO cellV (ts.map .c) = some ts := by
    induction ts with
    | nil => rfl
    | cons t ts ih => simp only [List.map_cons, mapO, cellV]; rw [show mapO cellV (ts.map .c) = some ts from by clear ih h; induction ts with | nil => rfl | cons t ts ih => simp only [List.map_cons, mapO, cellV, ih]]
  simp only [extG, List.isEmpty_nil, if_true, this, h, Option.map_some]
end Mx

/-
  Two functions of Go's library that write into a row of integers: slices.Sort, slices.Compact, by their contracts.
-/
namespace Mx
open Go

variable {P : Program} {F : Nat → FuncId}
def rowsInts (rows : List (List T)) : Option (List Int) := mapO (fun (r : List T) => match r with
  | [.int .i64 n] => some n
  | _ => none) rows
theorem rowsInts_ok : ∀ {rows : List (List T)} {zs : List Int}, rowsInts rows = some zs → rows = irow zs
  | [], zs, h => by simp [rowsInts, mapO] at h; subst h; rfl
  | r :: rows, zs, h => by
    simp only [rowsInts, mapO] at h
    split at h
    · rename_i y ys h1 h2
      cases h
      have := rowsInts_ok (rows := rows) (zs := ys) h2
      rw [this]
      split at h1
      · cases h1; rfl
      · cases h1
    · cases h
theorem rowsInts_irow (zs : List Int) : rowsInts (irow zs) = some zs := by
  induction zs with
  | nil => rfl
  | cons z zs ih => unfold rowsInts irow at ih ⊢; simp only [List.map_cons, mapO, ih]
/-- a row of integers that is lent whole -/
def lentInts (as : List V) (lent : List (Nat × Ob)) : Option (List Int) := match as, lent with
  | [.c (.row 0 0 0 len)], [(0, ob)] => match rowsInts ob.rows with
    | some zs => if ob.ver = 0 ∧ ob.sz = 1 ∧ ob.w = true ∧ ob.bx = false ∧ zs.length = len ∧ len ≤ 4294967296 then some zs else none
    | none => none
  | _, _ => none
def sortI (zs : List Int) : List Int := zs.mergeSort fun x y => decide (x ≤ y)
def sortG (as : List V) (lent : List (Nat × Ob)) : Option (V × List (Nat × Ob)) := (lentInts as lent).map fun zs => (.tup [], [(0, ⟨0, 1, true, false, irow (sortI zs)⟩)])
def compactG (as : List V) (lent : List (Nat × Ob)) : Option (V × List (Nat × Ob)) := (lentInts as lent).map fun zs =>
  (.c (.row 0 0 0 (Lib.compact zs).length), [(0, ⟨0, 1, true, false, irow (Lib.compact zs ++ List.replicate (zs.length - (Lib.compact zs).length) 0)⟩)])
theorem lentInts_ok {as : List V} {lent : List (Nat × Ob)} {zs : List Int} (h : lentInts as lent = some zs) : as = [.c (.row 0 0 0 zs.length)] ∧ lent = [(0, ⟨0, 1, true, false, irow zs⟩)] ∧ zs.length ≤ 4294967296 := by
  unfold lentInts at h
  split at h
  · rename_i len ob
    split at h
    · rename_i zs' hz
      split at h
      · rename_i hc
        cases h
        obtain ⟨h1, h2, h3, h4, h5, h6⟩ := hc
        subst h5
        refine ⟨rfl, ?_, h6⟩
        have := rowsInts_ok hz
        obtain ⟨ver, sz, w, bx, rows⟩ := ob
        simp only at h1 h2 h3 h4 this
        subst h1 h2 h3 h4 this
        rfl
      · cases h
    · cases h
  · cases h
/-- where that row lies -/
inductive RowAt (F : Nat → FuncId) (Pr : Nat → Prop) (E0 : Nat → Option Loc) (zs : List Int) (vals : Array Value) (w : World) : Prop where
  | none (hz : zs = []) (hv : vals = #[.slice none 0 0]) (hE : E0 0 = some .nil) : RowAt F Pr E0 zs vals w
  | blk (b cap : Nat) (cs : Array Value) (e : TypeId) (fr : Nat × Nat) (hE : E0 0 = some (.blk b cap 1)) (hv : vals = #[.slice (some ⟨b, 0, none⟩) zs.length cap]) (hh : w.heap[b]? = some (.cells cs e fr)) (hs : cs.size = cap)
      (hf : ∀ o, o < cs.size → ¬ (fr.1 ≤ o ∧ o < fr.2)) (hl : zs.length ≤ cap) (hc : ∀ (i : Nat) (z : Int), zs[i]? = some z → cs[i]? = some (.int .i64 z)) : RowAt F Pr E0 zs vals w
theorem irow_cell {zs : List Int} {i j : Nat} {r : List T} {t : T} (hi : (irow zs)[i]? = some r) (hj : r[j]? = some t) : j = 0 ∧ ∃ z, zs[i]? = some z ∧ t = .int .i64 z := by
  simp only [irow, List.getElem?_map, Option.map_eq_some_iff] at hi
  obtain ⟨z, hz, rfl⟩ := hi
  cases j with
  | zero => simp at hj; exact ⟨rfl, z, hz, hj.symm⟩
  | succ j => simp at hj
theorem rowAt {Pr : Nat → Prop} {E0 : Nat → Option Loc} {zs : List Int} {vals : Array Value} {w : World}
    (En : Entry F Pr E0 [.c (.row 0 0 0 zs.length)] [(0, ⟨0, 1, true, false, irow zs⟩)] vals w) : RowAt F Pr E0 zs vals w := by
  obtain ⟨len, hq⟩ : ∃ len, len = zs.length := ⟨_, rfl⟩
  rw [← hq] at En
  have hn : vals.size = 1 := En.n.symm
  obtain ⟨x, hx⟩ : ∃ x, vals = #[x] := by
    obtain ⟨l⟩ := vals
    match l, hn with
    | [x], _ => exact ⟨x, rfl⟩
  subst hx
  have ha := En.args 0 _ x rfl rfl
  obtain ⟨_, _, _, l, hl, hr⟩ := En.objs 0 _ (by simp [get]; rfl)
  cases ha with
  | c _ _ ha =>
    cases ha with
    | row _ _ _ _ cap sz b hE hlen ho =>
      have hE' : E0 0 = some (.blk b cap sz) := hE
      rw [hE'] at hl; cases hl
      subst hq
      obtain ⟨e1, hob⟩ := hr
      simp only at e1
      subst e1
      obtain ⟨h1, h2, h3, cs, e, fr, m1, m2, m3, m4⟩ := hob
      simp only at m2 m4
      refine .blk b cap cs e fr hE (by simp [baseA, Addr.add]) m1 (by omega) m3 (by omega) ?_
      intro i z hz
      have hi : (irow zs)[i]? = some [.int .i64 z] := by simp [irow, hz]
      obtain ⟨v, hv, hrep⟩ := m4 i 0 _ _ hi rfl
      cases hrep
      simpa using hv
    | rown _ _ hE =>
      exact .none (List.eq_nil_of_length_eq_zero hq.symm) rfl hE
/-- memory behind a call that wrote just that row, and perhaps laid more behind -/
theorem rowBack {Pr : Nat → Prop} {E0 : Nat → Option Loc} {zs zs' : List Int} {w w' : World} {b cap : Nat} {cs cs' : Array Value} {e : TypeId} {fr : Nat × Nat} {res : V} {val : Value}
    (hE : E0 0 = some (.blk b cap 1)) (hh : w.heap[b]? = some (.cells cs e fr)) (hs : cs.size = cap) (hf : ∀ o, o < cs.size → ¬ (fr.1 ≤ o ∧ o < fr.2)) (hl : zs.length ≤ cap)
    (hz : zs'.length = zs.length) (h1 : w'.os = w.os) (h2 : w'.tape = w.tape) (h3 : w'.output = w.output) (hsz : w.heap.size ≤ w'.heap.size) (hh' : w'.heap[b]? = some (.cells cs' e fr)) (hs' : cs'.size = cs.size)
    (hfr : ∀ b', b' < w.heap.size → b' ≠ b → w'.heap[b']? = w.heap[b']?) (hc : ∀ (i : Nat) (z : Int), zs'[i]? = some z → cs'[i]? = some (.int .i64 z))
    (hres : ResA (rx F Pr E0 [(0, ⟨0, 1, true, false, irow zs⟩)] E0 (fun _ => none) w') (fun _ => none) [(0, ⟨0, 1, true, false, irow zs⟩)] res val) :
    Back F Pr E0 [(0, ⟨0, 1, true, false, irow zs⟩)] w E0 (fun _ => none) res [(0, ⟨0, 1, true, false, irow zs'⟩)] val w' := by
  refine ⟨h1, h2, h3, hsz, ?_, fun v l h => h, fun q b cap sz h => (by cases h), fun q q' b cap sz cap' sz' h => (by cases h), hres, ?_⟩
  · intro b' hb' hn
    refine hfr b' hb' fun q => hn ⟨0, _, cap, 1, by simp [get]; rfl, ?_⟩
    rw [q]; exact hE
  · intro p ob ob' l hp hp' hEl
    simp only [get] at hp hp'
    split at hp
    · rename_i hp0
      subst hp0
      simp only [if_true] at hp'
      cases hp; cases hp'
      rw [hE] at hEl; cases hEl
      refine ⟨⟨rfl, ?_⟩, ?_⟩
      · refine ⟨by simp [irow]; omega, ?_, ?_, cs', e, fr, hh', by simp only; omega, fun o ho => hf o (by omega), ?_⟩
        · intro i r hi
          simp only [irow, List.getElem?_map, Option.map_eq_some_iff] at hi
          obtain ⟨z, _, rfl⟩ := hi; rfl
        · intro _ i j r t hi hj
          obtain ⟨_, z, _, rfl⟩ := irow_cell hi hj
          exact .int _ _
        · intro i j r t hi hj
          obtain ⟨rfl, z, hz, rfl⟩ := irow_cell hi hj
          refine ⟨.int .i64 z, ?_, .int _ _⟩
          simp only [Nat.mul_one, Nat.add_zero]
          exact hc i z hz
      · intro i j r t hi hj
        obtain ⟨_, z, _, rfl⟩ := irow_cell hi hj
        exact .int _ _
    · simp at hp
theorem rowHolds {zs : List Int} {w : World} {b : Nat} {cs : Array Value} {e : TypeId} {fr : Nat × Nat} {cap : Nat} (hh : w.heap[b]? = some (.cells cs e fr)) (hs : cs.size = cap) (hl : zs.length ≤ cap)
    (hf : ∀ o, o < cs.size → ¬ (fr.1 ≤ o ∧ o < fr.2)) (hc : ∀ (i : Nat) (z : Int), zs[i]? = some z → cs[i]? = some (.int .i64 z)) : Sort.Holds (Value.int .i64) w b 0 zs.toArray := by
  intro j hj
  have hj' : j < zs.length := by simpa using hj
  refine ⟨?_, ?_⟩
  · have := hc j zs[j] (List.getElem?_eq_getElem hj')
    simp only [World.cell?, hh, Option.isSome_none, Bool.false_eq_true, if_false, Nat.zero_add]
    rw [this]
    simp [getElem!_pos, hj']
  · simp only [World.frozen?, hh, Nat.zero_add]
    have := hf j (by omega)
    obtain ⟨lo, hi⟩ := fr
    simp only at this
    simp only [Bool.and_eq_false_iff, decide_eq_false_iff_not]
    omega
theorem putCells_size (off : Nat) (d : Array Int) (c : Array Value) : (Sort.putCells (Value.int .i64) off d c).size = c.size := by simp [Sort.putCells]
theorem putCells_at {zs : List Int} {c : Array Value} {i : Nat} {z : Int} (h : zs[i]? = some z) (hc : i < c.size) : (Sort.putCells (Value.int .i64) 0 zs.toArray c)[i]? = some (.int .i64 z) := by
  have hi : i < zs.length := by
    rcases Nat.lt_or_ge i zs.length with q | q
    · exact q
    · rw [List.getElem?_eq_none q] at h; cases h
  have hz : zs[i]! = z := by rw [getElem!_pos zs i hi]; rw [List.getElem?_eq_getElem hi] at h; exact Option.some.inj h
  simp only [Sort.putCells, Array.getElem?_mapIdx, Array.getElem?_eq_getElem hc, Option.map_some]
  rw [if_pos ⟨Nat.zero_le _, by simpa using hi⟩]
  simp [hz]
theorem putRow_heap (w : World) (b : Nat) (d : Array Int) {cs : Array Value} {e : TypeId} {fr : Nat × Nat} (hh : w.heap[b]? = some (.cells cs e fr)) :
    (Sort.putRow (Value.int .i64) w b 0 d).heap[b]? = some (.cells (Sort.putCells (Value.int .i64) 0 d cs) e fr) ∧ ∀ b', b' ≠ b → (Sort.putRow (Value.int .i64) w b 0 d).heap[b']? = w.heap[b']? := by
  simp only [Sort.putRow, Sort.mapBlock, Array.getElem?_modify]
  refine ⟨by simp [hh, Sort.onCells], fun b' hb => ?_⟩
  rw [if_neg (fun q => hb q.symm)]
theorem grow_heap (w : World) (os : Array Obj) {b : Nat} (hb : b < w.heap.size) : (Sort.grow w os).heap[b]? = w.heap[b]? := by
  simp [Sort.grow, Array.getElem?_append, hb]
theorem ext_sort {f : Nat} (hf : okFn P F f = true)
    (hN : ∀ (p : Option Addr) (cap : Nat) (w : World), Calls P (F f) #[.slice p 0 cap] w fun e w' => e = .returned (.tuple #[]) ∧ w' = w)
    (hS : ∀ (blk off cap : Nat) (zs : List Int) (w : World), Sort.Holds (Value.int .i64) w blk off zs.toArray → blk < w.heap.size → zs.length < 4611686018427387904 → Calls P (F f) #[.slice (some ⟨blk, off, none⟩) zs.length cap] w fun e w' =>
      e = .returned (.tuple #[]) ∧ ∃ n os, w' = Sort.grow (Sort.putRow (Value.int .i64) (Sort.ahead w n) blk off (zs.mergeSort fun x y => decide (x ≤ y)).toArray) os) : ExtOk P F f sortG := by
  intro as lent res after hg
  refine ⟨hf, fun Pr E0 vals w En => ?_⟩
  unfold sortG at hg
  simp only [Option.map_eq_some_iff] at hg
  obtain ⟨zs, hz, hg⟩ := hg
  cases hg
  obtain ⟨rfl, rfl, hlen⟩ := lentInts_ok hz
  cases rowAt En with
  | none h1 h2 h3 =>
    subst h1 h2
    refine (hN none 0 w).mono ?_
    rintro e w' ⟨rfl, rfl⟩
    refine ⟨.tuple #[], E0, fun _ => none, rfl, rfl, rfl, rfl, Nat.le_refl _, fun b _ _ => rfl, fun v l h => h, fun q b cap sz h => (by cases h), fun q q' b cap sz cap' sz' h => (by cases h), by simp [ResA, ResVs], ?_⟩
    intro p ob ob' l hp hp' hE
    simp only [get] at hp hp'
    split at hp
    · rename_i hp0
      subst hp0
      simp only [if_true] at hp'
      cases hp; cases hp'
      rw [h3] at hE; cases hE
      exact ⟨⟨by simp [sortI, irow], rfl⟩, fun i j r t h => by simp [sortI, irow] at h⟩
    · simp at hp
  | blk b cap cs e fr hE hv hh hs hfz hl hc =>
    subst hv
    have hb : b < w.heap.size := by
      rcases Nat.lt_or_ge b w.heap.size with q | q
      · exact q
      · rw [Array.getElem?_eq_none q] at hh; cases hh
    refine (hS b 0 cap zs w (rowHolds hh hs hl hfz hc) hb (by omega)).mono ?_
    rintro e' w' ⟨rfl, n, os, rfl⟩
    refine ⟨.tuple #[], E0, fun _ => none, rfl, ?_⟩
    have hp := putRow_heap (Sort.ahead w n) b (sortI zs).toArray (by simpa using hh)
    have hsl : (sortI zs).length = zs.length := by simp [sortI]
    have hgb : b < (Sort.putRow (Value.int .i64) (Sort.ahead w n) b 0 (sortI zs).toArray).heap.size := by simpa using hb
    refine rowBack (zs' := sortI zs) (cs' := Sort.putCells (Value.int .i64) 0 (sortI zs).toArray cs) hE hh hs hfz hl hsl rfl rfl rfl ?_ ((grow_heap _ os hgb).trans hp.1) (putCells_size _ _ _) ?_ ?_ (by simp [ResA, ResVs])
    · simp [Sort.grow]
    · intro b' hb' hne
      rw [grow_heap _ os (by simpa using hb')]
      exact hp.2 b' hne
    · intro i z hi
      refine putCells_at hi ?_
      have : i < (sortI zs).length := by
        rcases Nat.lt_or_ge i (sortI zs).length with q | q
        · exact q
        · rw [List.getElem?_eq_none q] at hi; cases hi
      omega
theorem ext_compact {f : Nat} (hf : okFn P F f = true)
    (hN : ∀ (p : Option Addr) (cap : Nat) (w : World), Calls P (F f) #[.slice p 0 cap] w fun e w' => e = .returned (.slice p 0 cap) ∧ w' = w)
    (hS : ∀ (blk off cap : Nat) (zs : List Int) (w : World), Sort.Holds (Value.int .i64) w blk off zs.toArray → zs.length ≤ 9223372036854775807 → zs.length ≤ cap → Calls P (F f) #[.slice (some ⟨blk, off, none⟩) zs.length cap] w fun e w' =>
      e = .returned (.slice (some ⟨blk, off, none⟩) (Lib.compact zs).length cap) ∧ ∃ q, w' = Sort.putRow (Value.int .i64) (Sort.ahead w q) blk off (Lib.compact zs ++ List.replicate (zs.length - (Lib.compact zs).length) 0).toArray)
    (hlen : ∀ zs : List Int, (Lib.compact zs).length ≤ zs.length) : ExtOk P F f compactG := by
  intro as lent res after hg
  refine ⟨hf, fun Pr E0 vals w En => ?_⟩
  unfold compactG at hg
  simp only [Option.map_eq_some_iff] at hg
  obtain ⟨zs, hz, hg⟩ := hg
  cases hg
  obtain ⟨rfl, rfl, hlen'⟩ := lentInts_ok hz
  cases rowAt En with
  | none h1 h2 h3 =>
    subst h1 h2
    have hc : Lib.compact ([] : List Int) = [] := List.eq_nil_of_length_eq_zero (Nat.le_zero.1 (hlen []))
    refine (hN none 0 w).mono ?_
    rintro e w' ⟨rfl, rfl⟩
    refine ⟨.slice none 0 0, E0, fun _ => none, rfl, rfl, rfl, rfl, Nat.le_refl _, fun b _ _ => rfl, fun v l h => h, fun q b cap sz h => (by cases h), fun q q' b cap sz cap' sz' h => (by cases h), ?_, ?_⟩
    · simp only [ResA, ResV, hc, List.length_nil]
      exact .row 0 0 0 0 _ fun ob hob => .rown 0 0 h3
    intro p ob ob' l hp hp' hE
    simp only [get] at hp hp'
    split at hp
    · rename_i hp0
      subst hp0
      simp only [if_true] at hp'
      cases hp; cases hp'
      rw [h3] at hE; cases hE
      exact ⟨⟨by simp [hc, irow], rfl⟩, fun i j r t h => by simp [hc, irow] at h⟩
    · simp at hp
  | blk b cap cs e fr hE hv hh hs hfz hl hc =>
    subst hv
    have hb : b < w.heap.size := by
      rcases Nat.lt_or_ge b w.heap.size with q | q
      · exact q
      · rw [Array.getElem?_eq_none q] at hh; cases hh
    refine (hS b 0 cap zs w (rowHolds hh hs hl hfz hc) (by omega) hl).mono ?_
    have hk := hlen zs
    generalize Lib.compact zs = ks at *
    rintro e' w' ⟨rfl, n, rfl⟩
    refine ⟨.slice (some ⟨b, 0, none⟩) ks.length cap, E0, fun _ => none, rfl, ?_⟩
    obtain ⟨zz, hzz⟩ : ∃ zz, zz = ks ++ List.replicate (zs.length - ks.length) 0 := ⟨_, rfl⟩
    have hsl : zz.length = zs.length := by rw [hzz]; simp; omega
    rw [← hzz]
    have hp := putRow_heap (Sort.ahead w n) b zz.toArray (by simpa using hh)
    refine rowBack (zs' := zz) (cs' := Sort.putCells (Value.int .i64) 0 zz.toArray cs) hE hh hs hfz hl hsl rfl rfl rfl (by simp) hp.1 (putCells_size _ _ _) ?_ ?_ ?_
    · intro b' hb' hne
      exact hp.2 b' hne
    · intro i z hi
      refine putCells_at hi ?_
      have : i < zz.length := by
        rcases Nat.lt_or_ge i zz.length with q | q
        · exact q
        · rw [List.getElem?_eq_none q] at hi; cases hi
      omega
    · simp only [ResA, ResV]
      refine .row 0 0 0 ks.length _ fun ob hob => ?_
      have := Rep.row (X := rx F Pr E0 [(0, ⟨0, 1, true, false, irow zs⟩)] E0 (fun _ => none) (Sort.putRow (Value.int .i64) (Sort.ahead w n) b 0 zz.toArray)) 0 0 0 ks.length cap 1 b hE (by omega) (.inr rfl)
      simpa [baseA, Addr.add] using this
/-- a table of codes and of contracts, at any arguments -/
def tabZ (tab : List (Nat × Fn)) (ext : List (Nat × (List V → List (Nat × Ob) → Option (V × List (Nat × Ob))))) (f : Nat) : Option Body := match get tab f with
  | some b => some (.code b)
  | none => (get ext f).map fun g => .ext g
theorem table_extz {tab : List (Nat × Fn)} {ext : List (Nat × (List V → List (Nat × Ob) → Option (V × List (Nat × Ob))))} (h : ∀ p ∈ tab, okFunc P F p.1 p.2 = true) (hx : ∀ p ∈ ext, ExtOk P F p.1 p.2) : TableOk P F (tabZ tab ext) := by
  intro f
  unfold tabZ
  cases hg : get tab f with
  | some b => exact h _ (get_mem hg)
  | none =>
    cases hq : get ext f with
    | none => simp
    | some g => exact hx _ (get_mem hq)
end Mx

/-
  Numbers of two lists, ascending, each once: by sorting, and by putting one after another.
-/
namespace Mx
open Go
def gput (l : List Int) (x : Int) : List Int := l.filter (fun y => decide (y < x)) ++ [x] ++ l.filter (fun y => decide (x < y))
def gadd (l : List Int) (x : Int) : List Int := if x ∈ l then l else gput l x
def joinGone (a b : List Int) : List Int := (a ++ b).foldl gadd []
abbrev Asc (l : List Int) : Prop := l.Pairwise (· < ·)
theorem asc_ext : ∀ {a b : List Int}, Asc a → Asc b → (∀ x, x ∈ a ↔ x ∈ b) → a = b
  | [], [], _, _, _ => rfl
  | [], y :: b, _, _, h => absurd ((h y).2 (List.mem_cons_self ..)) (by simp)
  | x :: a, [], _, _, h => absurd ((h x).1 (List.mem_cons_self ..)) (by simp)
  | x :: a, y :: b, ha, hb, h => by
    obtain ⟨ha1, ha2⟩ := List.pairwise_cons.1 ha
    obtain ⟨hb1, hb2⟩ := List.pairwise_cons.1 hb
    have e : x = y := by
      rcases List.mem_cons.1 ((h x).1 (List.mem_cons_self ..)) with q | q
      · exact q
      · rcases List.mem_cons.1 ((h y).2 (List.mem_cons_self ..)) with q' | q'
        · exact q'.symm
        · have := ha1 y q'; have := hb1 x q; omega
    subst e
    congr 1
    refine asc_ext ha2 hb2 fun z => ⟨fun hz => ?_, fun hz => ?_⟩
    · rcases List.mem_cons.1 ((h z).1 (List.mem_cons_of_mem _ hz)) with q | q
      · have := ha1 z hz; omega
      · exact q
    · rcases List.mem_cons.1 ((h z).2 (List.mem_cons_of_mem _ hz)) with q | q
      · have := hb1 z hz; omega
      · exact q
theorem gput_mem {l : List Int} {x z : Int} : z ∈ gput l x ↔ z = x ∨ z ∈ l := by
  simp only [gput, List.mem_append, List.mem_filter, decide_eq_true_eq, List.mem_singleton]
  constructor
  · rintro ((⟨h, _⟩ | h) | ⟨h, _⟩)
    · exact .inr h
    · exact .inl h
    · exact .inr h
  · rintro (h | h)
    · exact .inl (.inr h)
    · by_cases c : z < x
      · exact .inl (.inl ⟨h, c⟩)
      · by_cases c2 : z = x
        · exact .inl (.inr c2)
        · exact .inr ⟨h, by omega⟩
theorem gput_asc {l : List Int} {x : Int} (h : Asc l) : Asc (gput l x) := by
  simp only [gput, Asc, List.pairwise_append, List.pairwise_singleton, List.mem_filter, decide_eq_true_eq, List.mem_singleton, List.mem_append]
  refine ⟨⟨h.filter _, trivial, ?_⟩, h.filter _, ?_⟩
  · rintro a ⟨_, ha⟩ b rfl; exact ha
  · rintro a (⟨_, ha⟩ | rfl) b ⟨_, hb⟩ <;> omega
theorem gadd_mem {l : List Int} {x z : Int} : z ∈ gadd l x ↔ z = x ∨ z ∈ l := by
  unfold gadd; split
  · rename_i h
    constructor
    · exact .inr
    · rintro (rfl | q)
      · exact h
      · exact q
  · exact gput_mem
theorem gadd_asc {l : List Int} {x : Int} (h : Asc l) : Asc (gadd l x) := by
  unfold gadd; split
  · exact h
  · exact gput_asc h
theorem gfold_mem : ∀ (l acc : List Int) (z : Int), z ∈ l.foldl gadd acc ↔ z ∈ l ∨ z ∈ acc
  | [], acc, z => by simp
  | x :: l, acc, z => by
    simp only [List.foldl_cons, gfold_mem l, gadd_mem, List.mem_cons]
    constructor
    · rintro (h | h | h)
      · exact .inl (.inr h)
      · exact .inl (.inl h)
      · exact .inr h
    · rintro ((h | h) | h)
      · exact .inr (.inl h)
      · exact .inl h
      · exact .inr (.inr h)
theorem gfold_asc : ∀ (l acc : List Int), Asc acc → Asc (l.foldl gadd acc)
  | [], acc, h => h
  | x :: l, acc, h => gfold_asc l _ (gadd_asc h)
theorem joinGone_asc (a b : List Int) : Asc (joinGone a b) := gfold_asc _ _ List.Pairwise.nil
theorem joinGone_mem (a b : List Int) (z : Int) : z ∈ joinGone a b ↔ z ∈ a ∨ z ∈ b := by unfold joinGone; rw [gfold_mem]; simp
theorem gadd_len (l : List Int) (x : Int) : (gadd l x).length ≤ l.length + 1 := by
  unfold gadd; split
  · omega
  · simp only [gput, List.length_append, List.length_singleton]
    have : ∀ l : List Int, (l.filter fun y => decide (y < x)).length + (l.filter fun y => decide (x < y)).length ≤ l.length := by
      intro l
      induction l with
      | nil => simp
      | cons y l ih =>
        simp only [List.filter_cons]
        by_cases h1 : y < x
        · have h2 : ¬ x < y := by omega
          simp [h1, h2]; omega
        · by_cases h2 : x < y
          · simp [h1, h2]; omega
          · simp [h1, h2]; omega
    have := this l
    omega
theorem gfold_len : ∀ (l acc : List Int), (l.foldl gadd acc).length ≤ l.length + acc.length
  | [], acc => by simp
  | x :: l, acc => by
    have h1 := gfold_len l (gadd acc x)
    have h2 := gadd_len acc x
    simp only [List.foldl_cons, List.length_cons]; omega
/-- runs of equal numbers become one -/
def dedup : List Int → List Int
  | [] => []
  | x :: l => x :: (go x l)
where go : Int → List Int → List Int
  | _, [] => []
  | p, x :: l => if x = p then go x l else x :: go x l
theorem dedup_go_mem : ∀ (l : List Int) (p z : Int), z ∈ dedup.go p l → z ∈ l
  | [], p, z, h => by simp [dedup.go] at h
  | x :: l, p, z, h => by
    simp only [dedup.go] at h
    split at h
    · exact List.mem_cons_of_mem _ (dedup_go_mem l x z h)
    · rcases List.mem_cons.1 h with rfl | h
      · exact List.mem_cons_self ..
      · exact List.mem_cons_of_mem _ (dedup_go_mem l x z h)
theorem mem_dedup_go : ∀ (l : List Int) (p z : Int), z ∈ l → z = p ∨ z ∈ dedup.go p l
  | [], p, z, h => by simp at h
  | x :: l, p, z, h => by
    simp only [dedup.go]
    split
    · rename_i e
      subst e
      rcases List.mem_cons.1 h with q | q
      · exact .inl q
      · exact mem_dedup_go l x z q
    · rcases List.mem_cons.1 h with q | q
      · exact .inr (by rw [q]; exact List.mem_cons_self ..)
      · rcases mem_dedup_go l x z q with q | q
        · exact .inr (by rw [q]; exact List.mem_cons_self ..)
        · exact .inr (List.mem_cons_of_mem _ q)
theorem dedup_go_asc : ∀ (l : List Int) (p : Int), l.Pairwise (· ≤ ·) → (∀ z ∈ l, p ≤ z) → Asc (dedup.go p l) ∧ ∀ z ∈ dedup.go p l, p < z
  | [], p, _, _ => by simp [dedup.go]
  | x :: l, p, h, hp => by
    obtain ⟨h1, h2⟩ := List.pairwise_cons.1 h
    have hx := hp x (List.mem_cons_self ..)
    obtain ⟨k1, k2⟩ := dedup_go_asc l x h2 h1
    simp only [dedup.go]
    split
    · rename_i e; exact ⟨k1, fun z hz => by have := k2 z hz; omega⟩
    · rename_i e
      refine ⟨List.pairwise_cons.2 ⟨k2, k1⟩, fun z hz => ?_⟩
      rcases List.mem_cons.1 hz with rfl | hz
      · omega
      · have := k2 z hz; omega
theorem dedup_asc {l : List Int} (h : l.Pairwise (· ≤ ·)) : Asc (dedup l) := by
  cases l with
  | nil => exact List.Pairwise.nil
  | cons x l =>
    obtain ⟨h1, h2⟩ := List.pairwise_cons.1 h
    obtain ⟨k1, k2⟩ := dedup_go_asc l x h2 h1
    exact List.pairwise_cons.2 ⟨k2, k1⟩
theorem dedup_mem {l : List Int} {z : Int} : z ∈ dedup l ↔ z ∈ l := by
  cases l with
  | nil => simp [dedup]
  | cons x l =>
    simp only [dedup, List.mem_cons]
    constructor
    · rintro (h | h)
      · exact .inl h
      · exact .inr (dedup_go_mem l x z h)
    · rintro (h | h)
      · exact .inl h
      · exact mem_dedup_go l x z h
/-- the kit's word for it -/
theorem compact_dedup (l : List Int) : Lib.compact l = dedup l := by
  have key : ∀ (d : Array Int) (m : Nat) (l : List Int) (p : Int), 0 < m → m + l.length = d.size → d.toList.drop m = l → d[m - 1]! = p → ((List.range' m l.length).filter (Lib.keeps d)).map (d[·]!) = dedup.go p l := by
    intro d m l
    induction l generalizing m with
    | nil => intro p _ _ _ _; rfl
    | cons x l ih =>
      intro p hm hl hd hp
      have hlt : m < d.size := by simp at hl; omega
      have hx : d[m]! = x := by
        rw [getElem!_pos d m hlt]
        have := congrArg (·[0]?) hd
        simpa [hlt] using this
      have ih' := ih (m + 1) x (by omega) (by simp at hl; omega) (by rw [← List.tail_drop, hd]; rfl) (by simpa using hx)
      simp only [List.length_cons, List.range'_succ, List.filter_cons, dedup.go]
      by_cases e : x = p
      · have hk : Lib.keeps d m = false := Lib.keeps_neg hm (by rw [hx, hp, e])
        rw [if_pos e, hk]; simpa using ih'
      · have hk : Lib.keeps d m = true := Lib.keeps_pos (by rw [hx, hp]; exact e)
        rw [if_neg e, hk]; simp only [if_true, List.map_cons, hx, ih']
  cases l with
  | nil => rfl
  | cons x l =>
    have hk : Lib.keeps (x :: l).toArray 0 = true := Lib.keeps_lt_one _ 0 (by omega)
    unfold Lib.compact Lib.compactUpTo
    rw [List.range_eq_range', List.length_cons, List.range'_succ, List.filter_cons, hk]
    simp only [if_true, List.map_cons, dedup]
    congr 1
    exact key (x :: l).toArray 1 l x (by omega) (by simp; omega) (by simp) (by simp)
theorem compact_len (l : List Int) : (Lib.compact l).length ≤ l.length := by
  unfold Lib.compact Lib.compactUpTo
  rw [List.length_map]
  refine Nat.le_trans (List.length_filter_le _ _) ?_
  simp
theorem joinGone_sort (a b : List Int) : Lib.compact (sortI (a ++ b)) = joinGone a b := by
  rw [compact_dedup]
  have hs : (sortI (a ++ b)).Pairwise (· ≤ ·) := by
    have := List.pairwise_mergeSort (le := fun x y : Int => decide (x ≤ y)) (fun a b c h1 h2 => by simp only [decide_eq_true_eq] at *; omega) (fun a b => by simp only [Bool.or_eq_true, decide_eq_true_eq]; omega) (a ++ b)
    exact this.imp fun h => by simpa using h
  refine asc_ext (dedup_asc hs) (joinGone_asc a b) fun z => ?_
  rw [dedup_mem, joinGone_mem]
  simp [sortI]
end Mx

/-
  Small codes: spec.l06Put, spec.JoinGone, impl.JoinGone, laws.FnExactJoinGone.
-/
namespace Mx
open Go
def spec_l06Put.l0 : C := .seq (.seq (.reg [⟨some 9, .mv (.t 6), none⟩,
    ⟨some 10, .mv (.t 0), none⟩,
    ⟨some 11, .len (.t 10), none⟩,
    ⟨some 12, .bin .lss (.t 9) (.t 11), none⟩] [0, 1, 5, 6, 12] [8, 27, 31, 50])
  (.cond (.t 12) (.skip) (.exit 0)))
  (.seq (.block 1 (.seq (.reg [⟨some 15, .mv (.t 0), none⟩,
    ⟨some 16, .mv (.t 6), none⟩,
    ⟨some 17, .iaddr 1 (.t 15) (.t 16), none⟩,
    ⟨some 18, .load false 1 (.t 17), none⟩,
    ⟨some 19, .mv (.t 1), none⟩,
    ⟨some 20, .bin .lss (.t 18) (.t 19), none⟩] [0, 1, 5, 6, 20] [8, 27, 31, 50])
  (.cond (.t 20) (.reg [⟨some 21, .mv (.t 5), none⟩,
    ⟨some 22, .mv (.t 0), none⟩,
    ⟨some 23, .mv (.t 6), none⟩,
    ⟨some 24, .iaddr 1 (.t 22) (.t 23), none⟩,
    ⟨some 25, .load false 1 (.t 24), none⟩,
    ⟨some 26, .bslice 1 1 [.int .i64 0] [(0, .t 25)], none⟩,
    ⟨some 27, .app 1 8 (.t 21) (.t 26), none⟩,
    ⟨some 5, .mv (.t 27), none⟩] [0, 1, 5, 6] [8, 27, 31, 50]) (.skip))))
  (.reg [⟨some 13, .mv (.t 6), none⟩,
    ⟨some 14, .bin .add (.t 13) (.k (.int .i64 1)), none⟩,
    ⟨some 6, .mv (.t 14), none⟩] [0, 1, 5, 6] [8, 27, 31, 50]))
def spec_l06Put.l1 : C := .seq (.seq (.reg [⟨some 32, .mv (.t 7), none⟩,
    ⟨some 33, .mv (.t 0), none⟩,
    ⟨some 34, .len (.t 33), none⟩,
    ⟨some 35, .bin .lss (.t 32) (.t 34), none⟩] [0, 1, 5, 7, 35] [8, 27, 31, 50])
  (.cond (.t 35) (.skip) (.exit 2)))
  (.seq (.block 3 (.seq (.reg [⟨some 38, .mv (.t 0), none⟩,
    ⟨some 39, .mv (.t 7), none⟩,
    ⟨some 40, .iaddr 1 (.t 38) (.t 39), none⟩,
    ⟨some 41, .load false 1 (.t 40), none⟩,
    ⟨some 42, .mv (.t 1), none⟩,
    ⟨some 43, .bin .gtr (.t 41) (.t 42), none⟩] [0, 1, 5, 7, 43] [8, 27, 31, 50])
  (.cond (.t 43) (.reg [⟨some 44, .mv (.t 5), none⟩,
    ⟨some 45, .mv (.t 0), none⟩,
    ⟨some 46, .mv (.t 7), none⟩,
    ⟨some 47, .iaddr 1 (.t 45) (.t 46), none⟩,
    ⟨some 48, .load false 1 (.t 47), none⟩,
    ⟨some 49, .bslice 1 1 [.int .i64 0] [(0, .t 48)], none⟩,
    ⟨some 50, .app 1 8 (.t 44) (.t 49), none⟩,
    ⟨some 5, .mv (.t 50), none⟩] [0, 1, 5, 7] [8, 27, 31, 50]) (.skip))))
  (.reg [⟨some 36, .mv (.t 7), none⟩,
    ⟨some 37, .bin .add (.t 36) (.k (.int .i64 1)), none⟩,
    ⟨some 7, .mv (.t 37), none⟩] [0, 1, 5, 7] [8, 27, 31, 50]))
def spec_l06Put.b : C := .seq (.reg [⟨some 4, .nil 1, none⟩] [0, 1] [])
  (.seq (.reg [⟨some 8, .bslice 1 0 [.int .i64 0] [], none⟩,
    ⟨some 5, .mv (.t 8), none⟩] [0, 1, 5] [8, 27, 31, 50])
  (.seq (.seq (.reg [⟨some 6, .mv (.k (.int .i64 0)), none⟩] [0, 1, 5, 6] [8, 27, 31, 50])
  (.block 0 (.loop spec_l06Put.l0)))
  (.seq (.reg [⟨some 28, .mv (.t 5), none⟩,
    ⟨some 29, .mv (.t 1), none⟩,
    ⟨some 30, .bslice 1 1 [.int .i64 0] [(0, .t 29)], none⟩,
    ⟨some 31, .app 1 8 (.t 28) (.t 30), none⟩,
    ⟨some 5, .mv (.t 31), none⟩] [0, 1, 5] [8, 27, 31, 50])
  (.seq (.seq (.reg [⟨some 7, .mv (.k (.int .i64 0)), none⟩] [0, 1, 5, 7] [8, 27, 31, 50])
  (.block 2 (.loop spec_l06Put.l1)))
  (.seq (.reg [⟨some 51, .mv (.t 5), none⟩,
    ⟨some 4, .mv (.t 51), none⟩] [4] [4, 8, 27, 31, 50])
  (.ret))))))
def spec_l06Put.m : Fn := { np := 2, body := spec_l06Put.b, res := [.tmp 4] }
def spec_l06Put.k (M : Nat → Option Body) : Prop := M 133 = some (.code spec_l06Put.m)
def spec_JoinGone.l0 : C := .seq (.seq (.reg [⟨some 9, .mv (.t 6), none⟩,
    ⟨some 10, .mv (.t 0), none⟩,
    ⟨some 11, .len (.t 10), none⟩,
    ⟨some 12, .bin .lss (.t 9) (.t 11), none⟩] [0, 1, 5, 6, 12] [8, 12700, 14600])
  (.cond (.t 12) (.skip) (.exit 0)))
  (.seq (.block 1 (.seq (.reg [⟨some 15, .mv (.t 5), none⟩,
    ⟨some 16, .mv (.t 0), none⟩,
    ⟨some 17, .mv (.t 6), none⟩,
    ⟨some 18, .iaddr 1 (.t 16) (.t 17), none⟩,
    ⟨some 19, .load false 1 (.t 18), none⟩,
    ⟨some 20, .call 132 [.t 15, .t 19] [] [], none⟩,
    ⟨some 21, .not (.t 20), none⟩] [0, 1, 5, 6, 21] [8, 12700, 14600])
  (.cond (.t 21) (.reg [⟨some 22, .mv (.t 5), none⟩,
    ⟨some 23, .mv (.t 0), none⟩,
    ⟨some 24, .mv (.t 6), none⟩,
    ⟨some 25, .iaddr 1 (.t 23) (.t 24), none⟩,
    ⟨some 26, .load false 1 (.t 25), none⟩,
    ⟨some 27, .call 133 [.t 22, .t 26] [] [(0, 12700)], none⟩,
    ⟨some 5, .mv (.t 27), none⟩] [0, 1, 5, 6] [8, 12700, 14600]) (.skip))))
  (.reg [⟨some 13, .mv (.t 6), none⟩,
    ⟨some 14, .bin .add (.t 13) (.k (.int .i64 1)), none⟩,
    ⟨some 6, .mv (.t 14), none⟩] [0, 1, 5, 6] [8, 12700, 14600]))
def spec_JoinGone.l1 : C := .seq (.seq (.reg [⟨some 28, .mv (.t 7), none⟩,
    ⟨some 29, .mv (.t 1), none⟩,
    ⟨some 30, .len (.t 29), none⟩,
    ⟨some 31, .bin .lss (.t 28) (.t 30), none⟩] [1, 5, 7, 31] [8, 12700, 14600])
  (.cond (.t 31) (.skip) (.exit 2)))
  (.seq (.block 3 (.seq (.reg [⟨some 34, .mv (.t 5), none⟩,
    ⟨some 35, .mv (.t 1), none⟩,
    ⟨some 36, .mv (.t 7), none⟩,
    ⟨some 37, .iaddr 1 (.t 35) (.t 36), none⟩,
    ⟨some 38, .load false 1 (.t 37), none⟩,
    ⟨some 39, .call 132 [.t 34, .t 38] [] [], none⟩,
    ⟨some 40, .not (.t 39), none⟩] [1, 5, 7, 40] [8, 12700, 14600])
  (.cond (.t 40) (.reg [⟨some 41, .mv (.t 5), none⟩,
    ⟨some 42, .mv (.t 1), none⟩,
    ⟨some 43, .mv (.t 7), none⟩,
    ⟨some 44, .iaddr 1 (.t 42) (.t 43), none⟩,
    ⟨some 45, .load false 1 (.t 44), none⟩,
    ⟨some 46, .call 133 [.t 41, .t 45] [] [(0, 14600)], none⟩,
    ⟨some 5, .mv (.t 46), none⟩] [1, 5, 7] [8, 12700, 14600]) (.skip))))
  (.reg [⟨some 32, .mv (.t 7), none⟩,
    ⟨some 33, .bin .add (.t 32) (.k (.int .i64 1)), none⟩,
    ⟨some 7, .mv (.t 33), none⟩] [1, 5, 7] [8, 12700, 14600]))
def spec_JoinGone.b : C := .seq (.reg [⟨some 4, .nil 1, none⟩] [0, 1] [])
  (.seq (.reg [⟨some 8, .bslice 1 0 [.int .i64 0] [], none⟩,
    ⟨some 5, .mv (.t 8), none⟩] [0, 1, 5] [8, 12700, 14600])
  (.seq (.seq (.reg [⟨some 6, .mv (.k (.int .i64 0)), none⟩] [0, 1, 5, 6] [8, 12700, 14600])
  (.block 0 (.loop spec_JoinGone.l0)))
  (.seq (.seq (.reg [⟨some 7, .mv (.k (.int .i64 0)), none⟩] [1, 5, 7] [8, 12700, 14600])
  (.block 2 (.loop spec_JoinGone.l1)))
  (.seq (.reg [⟨some 47, .mv (.t 5), none⟩,
    ⟨some 4, .mv (.t 47), none⟩] [4] [4, 8, 12700, 14600])
  (.ret)))))
def spec_JoinGone.m : Fn := { np := 2, body := spec_JoinGone.b, res := [.tmp 4] }
def spec_JoinGone.k (M : Nat → Option Body) : Prop := M 43 = some (.code spec_JoinGone.m) ∧ spec_l06In.k M ∧ spec_l06Put.k M
def impl_JoinGone.b : C := .seq (.reg [⟨some 4, .nil 1, none⟩] [0, 1] [])
  (.seq (.reg [⟨some 6, .mv (.t 0), none⟩,
    ⟨some 7, .call 134 [.t 6] [] [(0, 10700)], none⟩,
    ⟨some 8, .mv (.t 1), none⟩,
    ⟨some 9, .app 1 8 (.t 7) (.t 8), none⟩,
    ⟨some 5, .mv (.t 9), none⟩] [5] [9, 10700])
  (.seq (.reg [⟨some 10, .mv (.t 5), none⟩,
    ⟨some 11, .call 135 [.t 10] [0] [], none⟩] [5] [9, 10700])
  (.seq (.reg [⟨some 12, .mv (.t 5), none⟩,
    ⟨some 13, .call 136 [.t 12] [0] [(0, 11300)], none⟩,
    ⟨some 4, .mv (.t 13), none⟩] [4] [4, 9, 10700, 11300])
  (.ret))))
def impl_JoinGone.m : Fn := { np := 2, body := impl_JoinGone.b, res := [.tmp 4] }
def impl_JoinGone.k (M : Nat → Option Body) : Prop := M 44 = some (.code impl_JoinGone.m) ∧ impl_copyInts.k M ∧ M 135 = some (.ext sortG) ∧ M 136 = some (.ext compactG)
def laws_FnExactJoinGone.b : C := .seq (.reg [⟨some 4, .mv (.k (.bool false)), none⟩] [0, 1] [])
  (.seq (.seq (.reg [⟨some 13, .mv (.t 0), none⟩,
    ⟨some 14, .len (.t 13), none⟩,
    ⟨some 15, .bin .gtr (.t 14) (.k (.int .i64 1048576)), none⟩] [0, 1, 15] [])
  (.cond (.t 15) (.seq (.reg [⟨some 4, .mv (.k (.bool true)), none⟩] [4] [])
  (.ret)) (.skip)))
  (.seq (.seq (.reg [⟨some 16, .mv (.t 1), none⟩,
    ⟨some 17, .len (.t 16), none⟩,
    ⟨some 18, .bin .gtr (.t 17) (.k (.int .i64 1048576)), none⟩] [0, 1, 18] [])
  (.cond (.t 18) (.seq (.reg [⟨some 4, .mv (.k (.bool true)), none⟩] [4] [])
  (.ret)) (.skip)))
  (.seq (.reg [⟨some 19, .mv (.t 0), none⟩,
    ⟨some 20, .call 42 [.t 19] [] [], none⟩,
    ⟨some 21, .mv (.t 1), none⟩,
    ⟨some 22, .call 42 [.t 21] [] [], none⟩,
    ⟨some 23, .call 43 [.t 20, .t 22] [] [], none⟩,
    ⟨some 5, .mv (.t 23), none⟩] [0, 1, 5] [])
  (.seq (.reg [⟨some 24, .mv (.t 0), none⟩,
    ⟨some 25, .call 42 [.t 24] [] [(0, 12500)], none⟩,
    ⟨some 6, .mv (.t 25), none⟩] [0, 1, 5, 6] [12500])
  (.seq (.reg [⟨some 26, .mv (.t 1), none⟩,
    ⟨some 27, .call 42 [.t 26] [] [(0, 12700)], none⟩,
    ⟨some 7, .mv (.t 27), none⟩] [0, 1, 5, 6, 7] [12500, 12700])
  (.seq (.reg [⟨some 28, .mv (.t 6), none⟩,
    ⟨some 29, .mv (.t 7), none⟩,
    ⟨some 30, .call 44 [.t 28, .t 29] [] [(0, 13000)], none⟩,
    ⟨some 8, .mv (.t 30), none⟩] [0, 1, 5, 6, 7, 8] [12500, 12700, 13000])
  (.seq (.seq (.reg [⟨some 31, .mv (.t 8), none⟩,
    ⟨some 32, .mv (.t 5), none⟩,
    ⟨some 33, .call 45 [.t 31, .t 32] [] [], none⟩,
    ⟨some 34, .not (.t 33), none⟩] [0, 1, 5, 6, 7, 8, 34] [12500, 12700, 13000])
  (.cond (.t 34) (.seq (.reg [⟨some 4, .mv (.k (.bool false)), none⟩] [4] [])
  (.ret)) (.skip)))
  (.seq (.seq (.reg [⟨some 35, .mv (.t 6), none⟩,
    ⟨some 36, .mv (.t 0), none⟩,
    ⟨some 37, .call 42 [.t 36] [] [], none⟩,
    ⟨some 38, .call 45 [.t 35, .t 37] [] [], none⟩,
    ⟨some 39, .not (.t 38), none⟩] [0, 1, 5, 6, 7, 8, 39] [12500, 12700, 13000])
  (.cond (.t 39) (.seq (.reg [⟨some 4, .mv (.k (.bool false)), none⟩] [4] [])
  (.ret)) (.skip)))
  (.seq (.seq (.reg [⟨some 40, .mv (.t 7), none⟩,
    ⟨some 41, .mv (.t 1), none⟩,
    ⟨some 42, .call 42 [.t 41] [] [], none⟩,
    ⟨some 43, .call 45 [.t 40, .t 42] [] [], none⟩,
    ⟨some 44, .not (.t 43), none⟩] [0, 1, 5, 6, 7, 8, 44] [12500, 12700, 13000])
  (.cond (.t 44) (.seq (.reg [⟨some 4, .mv (.k (.bool false)), none⟩] [4] [])
  (.ret)) (.skip)))
  (.seq (.reg [⟨some 9, .mv (.k (.int .i64 1)), none⟩] [0, 1, 5, 6, 7, 8, 9] [12500, 12700, 13000])
  (.seq (.reg [⟨some 45, .mv (.t 6), none⟩,
    ⟨some 46, .mv (.t 9), none⟩,
    ⟨some 47, .call 46 [.t 45, .t 46] [0] [], none⟩,
    ⟨some 9, .mv (.t 47), none⟩] [0, 1, 5, 7, 8, 9] [12700, 13000])
  (.seq (.reg [⟨some 48, .mv (.t 7), none⟩,
    ⟨some 49, .mv (.t 9), none⟩,
    ⟨some 50, .call 46 [.t 48, .t 49] [0] [], none⟩,
    ⟨some 9, .mv (.t 50), none⟩] [0, 1, 5, 8, 9] [13000])
  (.seq (.seq (.reg [⟨some 51, .mv (.t 9), none⟩,
    ⟨some 52, .bin .lss (.t 51) (.k (.int .i64 0)), none⟩,
    ⟨some 53, .mv (.t 52), none⟩,
    ⟨some 54, .mv (.t 8), some (53, false)⟩,
    ⟨some 55, .mv (.t 5), some (53, false)⟩,
    ⟨some 56, .call 45 [.t 54, .t 55] [] [], some (53, false)⟩,
    ⟨some 57, .not (.t 56), some (53, false)⟩,
    ⟨some 58, .pick (.t 53) (.k (.bool true)) (.t 57), none⟩] [0, 1, 5, 8, 58] [13000])
  (.cond (.t 58) (.seq (.reg [⟨some 4, .mv (.k (.bool false)), none⟩] [4] [])
  (.ret)) (.skip)))
  (.seq (.reg [⟨some 10, .mv (.k (.int .i64 1)), none⟩] [0, 1, 5, 8, 10] [13000])
  (.seq (.reg [⟨some 59, .mv (.t 8), none⟩,
    ⟨some 60, .mv (.t 10), none⟩,
    ⟨some 61, .call 46 [.t 59, .t 60] [0] [], none⟩,
    ⟨some 10, .mv (.t 61), none⟩] [0, 1, 5, 8, 10] [13000])
  (.seq (.reg [⟨some 11, .mv (.k (.int .i64 1)), none⟩] [0, 1, 5, 8, 10, 11] [13000])
  (.seq (.reg [⟨some 62, .mv (.t 8), none⟩,
    ⟨some 63, .mv (.t 11), none⟩,
    ⟨some 64, .call 47 [.t 62, .t 63] [] [], none⟩,
    ⟨some 11, .mv (.t 64), none⟩] [0, 1, 5, 8, 10, 11] [13000])
  (.seq (.seq (.reg [⟨some 65, .mv (.t 11), none⟩,
    ⟨some 66, .bin .lss (.t 65) (.k (.int .i64 0)), none⟩] [0, 1, 5, 8, 10, 11, 66] [13000])
  (.cond (.t 66) (.seq (.reg [⟨some 4, .mv (.k (.bool false)), none⟩] [4] [])
  (.ret)) (.skip)))
  (.seq (.seq (.reg [⟨some 67, .mv (.t 11), none⟩,
    ⟨some 68, .mv (.t 10), none⟩,
    ⟨some 69, .bin .neq (.t 67) (.t 68), none⟩] [0, 1, 5, 8, 10, 69] [13000])
  (.cond (.t 69) (.seq (.reg [⟨some 4, .mv (.k (.bool false)), none⟩] [4] [])
  (.ret)) (.skip)))
  (.seq (.reg [⟨some 70, .mv (.t 0), none⟩,
    ⟨some 71, .call 42 [.t 70] [] [], none⟩,
    ⟨some 72, .mv (.t 1), none⟩,
    ⟨some 73, .call 42 [.t 72] [] [], none⟩,
    ⟨some 74, .call 44 [.t 71, .t 73] [] [], none⟩,
    ⟨some 12, .mv (.t 74), none⟩] [5, 8, 10, 12] [13000])
  (.seq (.seq (.reg [⟨some 75, .mv (.t 12), none⟩,
    ⟨some 76, .mv (.t 5), none⟩,
    ⟨some 77, .call 45 [.t 75, .t 76] [] [], none⟩,
    ⟨some 78, .not (.t 77), none⟩] [8, 10, 78] [13000])
  (.cond (.t 78) (.seq (.reg [⟨some 4, .mv (.k (.bool false)), none⟩] [4] [])
  (.ret)) (.skip)))
  (.seq (.reg [⟨some 11, .mv (.k (.int .i64 1)), none⟩] [8, 10, 11] [13000])
  (.seq (.reg [⟨some 79, .mv (.t 8), none⟩,
    ⟨some 80, .mv (.t 11), none⟩,
    ⟨some 81, .call 47 [.t 79, .t 80] [] [], none⟩,
    ⟨some 11, .mv (.t 81), none⟩] [10, 11] [])
  (.seq (.seq (.reg [⟨some 82, .mv (.t 11), none⟩,
    ⟨some 83, .bin .lss (.t 82) (.k (.int .i64 0)), none⟩] [10, 11, 83] [])
  (.cond (.t 83) (.seq (.reg [⟨some 4, .mv (.k (.bool false)), none⟩] [4] [])
  (.ret)) (.skip)))
  (.seq (.seq (.reg [⟨some 84, .mv (.t 11), none⟩,
    ⟨some 85, .mv (.t 10), none⟩,
    ⟨some 86, .bin .neq (.t 84) (.t 85), none⟩] [86] [])
  (.cond (.t 86) (.seq (.reg [⟨some 4, .mv (.k (.bool false)), none⟩] [4] [])
  (.ret)) (.skip)))
  (.seq (.reg [⟨some 4, .mv (.k (.bool true)), none⟩] [4] [])
  (.ret)))))))))))))))))))))))))))
def laws_FnExactJoinGone.m : Fn := { np := 2, body := laws_FnExactJoinGone.b, res := [.tmp 4] }
def laws_FnExactJoinGone.k (M : Nat → Option Body) : Prop := M 369 = some (.code laws_FnExactJoinGone.m) ∧ laws_toIntS.k M ∧ spec_JoinGone.k M ∧ impl_JoinGone.k M ∧ laws_eqIntS.k M ∧ laws_markIntS.k M ∧ laws_heldIntS.k M
end Mx

/-
  JoinGone on both sides, and its law.
-/
namespace Mx
open Go
variable {M : Nat → Option Body}
def guS (l : List Int) (x : Int) (i : Nat) (s : List Int) (m : Nat × Nat) : St := { t := [(0, .c (ints l)), (1, .c (I x)), (5, .c (.row 8 m.1 0 s.length)), (6, .c (I i))], o := [(8, ⟨m.1, 1, true, false, irow s⟩)], n := m.2 }
def guE (l : List Int) (x : Int) (s : List Int) (m : Nat × Nat) : St := { t := [(0, .c (ints l)), (1, .c (I x)), (5, .c (.row 8 m.1 0 s.length)), (6, .c (I l.length)), (12, .c (.bool false))], o := [(8, ⟨m.1, 1, true, false, irow s⟩)], n := m.2 }
def gvS (l : List Int) (x : Int) (i : Nat) (s : List Int) (m : Nat × Nat) : St := { t := [(0, .c (ints l)), (1, .c (I x)), (5, .c (.row 8 m.1 0 s.length)), (7, .c (I i))], o := [(8, ⟨m.1, 1, true, false, irow s⟩)], n := m.2 }
def gvE (l : List Int) (x : Int) (s : List Int) (m : Nat × Nat) : St := { t := [(0, .c (ints l)), (1, .c (I x)), (5, .c (.row 8 m.1 0 s.length)), (7, .c (I l.length)), (35, .c (.bool false))], o := [(8, ⟨m.1, 1, true, false, irow s⟩)], n := m.2 }
theorem filter_fold (p : Int → Bool) : ∀ (l s : List Int), l.foldl (fun s a => if p a = true then s ++ [a] else s) s = s ++ l.filter p
  | [], s => by simp
  | a :: l, s => by
    rw [List.foldl_cons, filter_fold p l, List.filter_cons]
    by_cases h : p a = true <;> simp [h]
theorem irow_snoc (s : List Int) (a : Int) : irow (s ++ [a]) = irow s ++ [[I a]] := by simp [irow]
theorem irow_length (s : List Int) : (irow s).length = s.length := by simp [irow]
theorem spec_l06Put.says (h : spec_l06Put.k M) (l : List Int) (x : Int) (hl : l.length ≤ 16777216) : run M 133 [.c (ints l), .c (I x)] [] = some (.c (.sl true 1 (irow (gput l x))), []) := by
  refine run_code (b := spec_l06Put.m) h ⟨l.length + 1, ?_⟩
  obtain ⟨g, hr⟩ := fold_loop (f := exC (run M) (l.length + 1) spec_l06Put.l0) l (fun s a => if decide (a < x) = true then s ++ [a] else s) (fun i s => s.length ≤ i) (guS l x) 0 (guE l x)
    (fun i h s hs => by split <;> (try simp) <;> omega)
    (fun i hi s m hs => by
      obtain ⟨v, m⟩ := m
      have e5 : IntKind.i64.wrap ((i : Int) + 1) = (i : Int) + 1 := wrap_i64 (by omega) (by omega)
      have e6 : s.length + 1 ≤ 4294967296 := by omega
      have e9 := irow_length s
      simp only [Prod.exists]
      by_cases c : l[i] < x
      · simp only [c, decide_true, if_true, guS, irow_snoc]
        generalize irow s = rr at *
        simp (maxSteps := 1000000) [spec_l06Put.l0, List.range_succ, bs_get, setAt, hi, c, e5, e6, e9, List.take_of_length_le]
      · simp only [c, decide_false, Bool.false_eq_true, if_false]
        simp (maxSteps := 1000000) [spec_l06Put.l0, List.range_succ, bs_get, setAt, guS, hi, c, e5])
    (fun s m hs => by
      obtain ⟨v, m⟩ := m
      simp only [Prod.exists]
      simp (maxSteps := 1000000) [spec_l06Put.l0, List.range_succ, bs_get, setAt, guS, guE]) [] (by simp)
  obtain ⟨g', hr'⟩ := fold_loop (f := exC (run M) (l.length + 1) spec_l06Put.l1) l (fun s a => if decide (x < a) = true then s ++ [a] else s) (fun i s => s.length ≤ l.length + 1 + i) (gvS l x) 2 (gvE l x)
    (fun i h s hs => by split <;> (try simp) <;> omega)
    (fun i hi s m hs => by
      obtain ⟨v, m⟩ := m
      have e5 : IntKind.i64.wrap ((i : Int) + 1) = (i : Int) + 1 := wrap_i64 (by omega) (by omega)
      have e6 : s.length + 1 ≤ 4294967296 := by omega
      have e9 := irow_length s
      simp only [Prod.exists]
      by_cases c : x < l[i]
      · simp only [c, decide_true, if_true, gvS, irow_snoc]
        generalize irow s = rr at *
        simp (maxSteps := 1000000) [spec_l06Put.l1, List.range_succ, bs_get, setAt, hi, c, e5, e6, e9, List.take_of_length_le]
      · simp only [c, decide_false, Bool.false_eq_true, if_false]
        simp (maxSteps := 1000000) [spec_l06Put.l1, List.range_succ, bs_get, setAt, gvS, hi, c, e5])
    (fun s m hs => by
      obtain ⟨v, m⟩ := m
      simp only [Prod.exists]
      simp (maxSteps := 1000000) [spec_l06Put.l1, List.range_succ, bs_get, setAt, gvS, gvE]) (l.filter (fun y => decide (y < x)) ++ [x]) (by have := List.length_filter_le (fun y => decide (y < x)) l; simp; omega)
  rw [filter_fold] at hr hr'
  have hfl := List.length_filter_le (fun y => decide (y < x)) l
  have e6 : (l.filter (fun y => decide (y < x))).length + 1 ≤ 4294967296 := by omega
  have e9 := irow_length (l.filter (fun y => decide (y < x)))
  have e10 := irow_length (l.filter (fun y => decide (y < x)) ++ [x] ++ l.filter (fun y => decide (x < y)))
  have e11 : (l.filter (fun y => decide (y < x)) ++ [x] ++ l.filter (fun y => decide (x < y))).length = (l.filter (fun y => decide (y < x))).length + ((l.filter (fun y => decide (x < y))).length + 1) := by simp only [List.length_append, List.length_singleton]; omega
  rw [e11] at e10
  have e12 := irow_snoc (l.filter (fun y => decide (y < x))) x
  unfold gput
  simp only [List.nil_append] at hr
  simp only [guS, guE, List.length_nil, e11] at hr
  simp only [gvS, gvE, e12, e11, List.length_append, List.length_singleton] at hr'
  generalize irow (l.filter (fun y => decide (y < x)) ++ [x] ++ l.filter (fun y => decide (x < y))) = r2 at *
  generalize irow (l.filter (fun y => decide (y < x))) = r1 at *
  simp [irow] at hr
  simp at hr'
  simp (maxSteps := 1000000) [exB, spec_l06Put.m, spec_l06Put.b, List.range_succ, bs_get, setAt, hr, hr', e6, e9, e10, List.take_of_length_le, irow]
/-! ## one list after the other -/
structure GX where
  w : Nat
  v8 : Nat
  v1 : Nat
  v2 : Nat
  r8 : List (List T)
  r1 : List (List T)
  n : Nat
def gO0 (s : List Int) (x : GX) : List (Nat × Ob) := match x.w with
  | 0 => [(8, ⟨x.v8, 1, true, false, irow s⟩)]
  | _ => [(8, ⟨x.v8, 1, true, false, x.r8⟩), (12700, ⟨x.v1, 1, true, false, irow s⟩)]
def gR0 (s : List Int) (x : GX) : T := match x.w with
  | 0 => .row 8 x.v8 0 s.length
  | _ => .row 12700 x.v1 0 s.length
def gO (s : List Int) (x : GX) : List (Nat × Ob) := match x.w with
  | 0 => [(8, ⟨x.v8, 1, true, false, irow s⟩)]
  | 1 => [(8, ⟨x.v8, 1, true, false, x.r8⟩), (12700, ⟨x.v1, 1, true, false, irow s⟩)]
  | 2 => [(8, ⟨x.v8, 1, true, false, x.r8⟩), (14600, ⟨x.v2, 1, true, false, irow s⟩)]
  | _ => [(8, ⟨x.v8, 1, true, false, x.r8⟩), (12700, ⟨x.v1, 1, true, false, x.r1⟩), (14600, ⟨x.v2, 1, true, false, irow s⟩)]
def gR (s : List Int) (x : GX) : T := match x.w with
  | 0 => .row 8 x.v8 0 s.length
  | 1 => .row 12700 x.v1 0 s.length
  | _ => .row 14600 x.v2 0 s.length
theorem GX.of {p : GX → Prop} (w r8 r1) (h : ∃ v8 v1 v2 n, p ⟨w, v8, v1, v2, r8, r1, n⟩) : ∃ x, p x := by
  obtain ⟨v8, v1, v2, n, h⟩ := h; exact ⟨_, h⟩
def gjS (a b : List Int) (i : Nat) (s : List Int) (x : GX) : St := { t := [(0, .c (ints a)), (1, .c (ints b)), (5, .c (gR0 s x)), (6, .c (I i))], o := gO0 s x, n := x.n }
def gjE (a b : List Int) (s : List Int) (x : GX) : St := { t := [(0, .c (ints a)), (1, .c (ints b)), (5, .c (gR0 s x)), (6, .c (I a.length)), (12, .c (.bool false))], o := gO0 s x, n := x.n }
def gkS (b : List Int) (i : Nat) (s : List Int) (x : GX) : St := { t := [(1, .c (ints b)), (5, .c (gR s x)), (7, .c (I i))], o := gO s x, n := x.n }
def gkE (b : List Int) (s : List Int) (x : GX) : St := { t := [(1, .c (ints b)), (5, .c (gR s x)), (7, .c (I b.length)), (31, .c (.bool false))], o := gO s x, n := x.n }
theorem irow_scalar (l : List Int) : (irow l).all (fun r => r.all T.scalar) = true := by simp [irow, T.scalar]
theorem spec_JoinGone.turn0 (k1 : spec_l06In.k M) (k2 : spec_l06Put.k M) (a b : List Int) (K i : Nat) (hi : i < a.length) (ha : a.length ≤ 1048576) (s : List Int) (hs : s.length ≤ i) (x : GX) :
    ∃ y, exC (run M) K spec_JoinGone.l0 (gjS a b i s x) = some (.normal, gjS a b (i + 1) (gadd s a[i]) y) := by
  have h1 := spec_l06In.says k1 s a[i] (by omega)
  have h2 := spec_l06Put.says k2 s a[i] (by omega)
  have e5 : IntKind.i64.wrap ((i : Int) + 1) = (i : Int) + 1 := wrap_i64 (by omega) (by omega)
  have e9 := irow_length s
  have e10 := irow_length (gput s a[i])
  have hfl := irow_scalar (gput s a[i])
  simp only [ints] at h1 h2
  obtain ⟨w, v8, v1, v2, r8, r1, n⟩ := x
  unfold gadd
  by_cases c : a[i] ∈ s
  · rw [if_pos c]
    rw [decide_eq_true c] at h1
    refine GX.of w r8 r1 ?_
    match w with
    | 0 => simp only [gjS, gO0, gR0]; generalize irow s = rr at *; simp (maxSteps := 1000000) [spec_JoinGone.l0, List.range_succ, bs_get, setAt, hi, h1, e5, e9, List.take_of_length_le]
    | w + 1 => simp only [gjS, gO0, gR0]; generalize irow s = rr at *; simp (maxSteps := 1000000) [spec_JoinGone.l0, List.range_succ, bs_get, setAt, hi, h1, e5, e9, List.take_of_length_le]
  · rw [if_neg c]
    rw [decide_eq_false c] at h1
    match w with
    | 0 =>
      refine GX.of 1 (irow s) r1 ?_
      simp only [gjS, gO0, gR0]; generalize irow (gput s a[i]) = r2 at *; generalize irow s = rr at *; simp (maxSteps := 1000000) [spec_JoinGone.l0, List.range_succ, bs_get, setAt, hi, h1, h2, e5, e9, e10, hfl, List.take_of_length_le]
    | w + 1 =>
      refine GX.of 1 r8 r1 ?_
      simp only [gjS, gO0, gR0]; generalize irow (gput s a[i]) = r2 at *; generalize irow s = rr at *; simp (maxSteps := 1000000) [spec_JoinGone.l0, List.range_succ, bs_get, setAt, hi, h1, h2, e5, e9, e10, hfl, List.take_of_length_le]
theorem spec_JoinGone.turn1 (k1 : spec_l06In.k M) (k2 : spec_l06Put.k M) (b : List Int) (K i : Nat) (hi : i < b.length) (hb : b.length ≤ 1048576) (s : List Int) (hs : s.length ≤ 1048576 + i) (x : GX) :
    ∃ y, exC (run M) K spec_JoinGone.l1 (gkS b i s x) = some (.normal, gkS b (i + 1) (gadd s b[i]) y) := by
  have h1 := spec_l06In.says k1 s b[i] (by omega)
  have h2 := spec_l06Put.says k2 s b[i] (by omega)
  have e5 : IntKind.i64.wrap ((i : Int) + 1) = (i : Int) + 1 := wrap_i64 (by omega) (by omega)
  have e9 := irow_length s
  have e10 := irow_length (gput s b[i])
  have hfl := irow_scalar (gput s b[i])
  simp only [ints] at h1 h2
  obtain ⟨w, v8, v1, v2, r8, r1, n⟩ := x
  unfold gadd
  by_cases c : b[i] ∈ s
  · rw [if_pos c]
    rw [decide_eq_true c] at h1
    refine GX.of w r8 r1 ?_
    match w with
    | 0 => simp only [gkS, gO, gR]; generalize irow s = rr at *; simp (maxSteps := 1000000) [spec_JoinGone.l1, List.range_succ, bs_get, setAt, hi, h1, e5, e9, List.take_of_length_le]
    | 1 => simp only [gkS, gO, gR]; generalize irow s = rr at *; simp (maxSteps := 1000000) [spec_JoinGone.l1, List.range_succ, bs_get, setAt, hi, h1, e5, e9, List.take_of_length_le]
    | 2 => simp only [gkS, gO, gR]; generalize irow s = rr at *; simp (maxSteps := 1000000) [spec_JoinGone.l1, List.range_succ, bs_get, setAt, hi, h1, e5, e9, List.take_of_length_le]
    | w + 3 => simp only [gkS, gO, gR]; generalize irow s = rr at *; simp (maxSteps := 1000000) [spec_JoinGone.l1, List.range_succ, bs_get, setAt, hi, h1, e5, e9, List.take_of_length_le]
  · rw [if_neg c]
    rw [decide_eq_false c] at h1
    match w with
    | 0 =>
      refine GX.of 2 (irow s) r1 ?_
      simp only [gkS, gO, gR]; generalize irow (gput s b[i]) = r2 at *; generalize irow s = rr at *; simp (maxSteps := 1000000) [spec_JoinGone.l1, List.range_succ, bs_get, setAt, hi, h1, h2, e5, e9, e10, hfl, List.take_of_length_le]
    | 1 =>
      refine GX.of 3 r8 (irow s) ?_
      simp only [gkS, gO, gR]; generalize irow (gput s b[i]) = r2 at *; generalize irow s = rr at *; simp (maxSteps := 1000000) [spec_JoinGone.l1, List.range_succ, bs_get, setAt, hi, h1, h2, e5, e9, e10, hfl, List.take_of_length_le]
    | 2 =>
      refine GX.of 2 r8 r1 ?_
      simp only [gkS, gO, gR]; generalize irow (gput s b[i]) = r2 at *; generalize irow s = rr at *; simp (maxSteps := 1000000) [spec_JoinGone.l1, List.range_succ, bs_get, setAt, hi, h1, h2, e5, e9, e10, hfl, List.take_of_length_le]
    | w + 3 =>
      refine GX.of 3 r8 r1 ?_
      simp only [gkS, gO, gR]; generalize irow (gput s b[i]) = r2 at *; generalize irow s = rr at *; simp (maxSteps := 1000000) [spec_JoinGone.l1, List.range_succ, bs_get, setAt, hi, h1, h2, e5, e9, e10, hfl, List.take_of_length_le]
theorem spec_JoinGone.says (h : spec_JoinGone.k M) (a b : List Int) (ha : a.length ≤ 1048576) (hb : b.length ≤ 1048576) : run M 43 [.c (ints a), .c (ints b)] [] = some (.c (.sl true 1 (irow (joinGone a b))), []) := by
  obtain ⟨h0, k1, k2⟩ := h
  refine run_code (b := spec_JoinGone.m) h0 ⟨a.length + b.length + 1, ?_⟩
  obtain ⟨g, hr⟩ := fold_loop (f := exC (run M) (a.length + b.length + 1) spec_JoinGone.l0) a gadd (fun i s => s.length ≤ i) (gjS a b) 0 (gjE a b)
    (fun i h s hs => by have := gadd_len s a[i]; omega)
    (fun i hi s x hs => spec_JoinGone.turn0 k1 k2 a b _ i hi ha s hs x)
    (fun s x hs => by
      obtain ⟨w, v8, v1, v2, r8, r1, n⟩ := x
      refine GX.of w r8 r1 ?_
      match w with
      | 0 => simp only [gjS, gjE, gO0, gR0]; simp (maxSteps := 1000000) [spec_JoinGone.l0, List.range_succ, bs_get, setAt]
      | w + 1 => simp only [gjS, gjE, gO0, gR0]; simp (maxSteps := 1000000) [spec_JoinGone.l0, List.range_succ, bs_get, setAt]) [] (by simp)
  have hla := gfold_len a []
  obtain ⟨g', hr'⟩ := fold_loop (f := exC (run M) (a.length + b.length + 1) spec_JoinGone.l1) b gadd (fun i s => s.length ≤ 1048576 + i) (gkS b) 2 (gkE b)
    (fun i h s hs => by have := gadd_len s b[i]; omega)
    (fun i hi s x hs => spec_JoinGone.turn1 k1 k2 b _ i hi hb s hs x)
    (fun s x hs => by
      obtain ⟨w, v8, v1, v2, r8, r1, n⟩ := x
      refine GX.of w r8 r1 ?_
      match w with
      | 0 => simp only [gkS, gkE, gO, gR]; simp (maxSteps := 1000000) [spec_JoinGone.l1, List.range_succ, bs_get, setAt]
      | 1 => simp only [gkS, gkE, gO, gR]; simp (maxSteps := 1000000) [spec_JoinGone.l1, List.range_succ, bs_get, setAt]
      | 2 => simp only [gkS, gkE, gO, gR]; simp (maxSteps := 1000000) [spec_JoinGone.l1, List.range_succ, bs_get, setAt]
      | w + 3 => simp only [gkS, gkE, gO, gR]; simp (maxSteps := 1000000) [spec_JoinGone.l1, List.range_succ, bs_get, setAt]) (a.foldl gadd []) (by simp at hla ⊢; omega)
  have hr2 := fun x => loopN_le (hr x) (show a.length + 1 ≤ a.length + b.length + 1 by omega)
  have hr3 := fun x => loopN_le (hr' x) (show b.length + 1 ≤ a.length + b.length + 1 by omega)
  have hj : b.foldl gadd (a.foldl gadd []) = joinGone a b := by rw [joinGone, List.foldl_append]
  rw [hj] at hr3
  have e9 := irow_length (joinGone a b)
  generalize joinGone a b = j at *
  generalize a.foldl gadd [] = s at *
  have hr4 : ∀ y : GX, ∃ z : GX, loopN (exC (run M) (a.length + b.length + 1) spec_JoinGone.l1) (a.length + b.length + 1) (gkS b 0 s y) = some (.exit 2, gkE b j z) := fun y => ⟨_, hr3 y⟩
  have hq := hr2 ⟨0, 2000016, 0, 0, [], [], 2000064⟩
  generalize g ⟨0, 2000016, 0, 0, [], [], 2000064⟩ = y at hq
  clear hr hr2 hr' hr3
  obtain ⟨w, v8, v1, v2, r8, r1, n⟩ := y
  match w with
  | 0 =>
    obtain ⟨⟨w', u8, u1, u2, q8, q1, m⟩, hz⟩ := hr4 ⟨0, v8, v1, v2, r8, r1, n + 16⟩
    simp [gjS, gjE, gO0, gR0, irow] at hq
    match w' with
    | 0 => simp [gkS, gkE, gO, gR, irow] at hz; simp only [irow] at e9 ⊢; simp (maxSteps := 1000000) [exB, spec_JoinGone.m, spec_JoinGone.b, List.range_succ, bs_get, setAt, hq, hz, e9, List.take_of_length_le]
    | 1 => simp [gkS, gkE, gO, gR, irow] at hz; simp only [irow] at e9 ⊢; simp (maxSteps := 1000000) [exB, spec_JoinGone.m, spec_JoinGone.b, List.range_succ, bs_get, setAt, hq, hz, e9, List.take_of_length_le]
    | 2 => simp [gkS, gkE, gO, gR, irow] at hz; simp only [irow] at e9 ⊢; simp (maxSteps := 1000000) [exB, spec_JoinGone.m, spec_JoinGone.b, List.range_succ, bs_get, setAt, hq, hz, e9, List.take_of_length_le]
    | w' + 3 => simp [gkS, gkE, gO, gR, irow] at hz; simp only [irow] at e9 ⊢; simp (maxSteps := 1000000) [exB, spec_JoinGone.m, spec_JoinGone.b, List.range_succ, bs_get, setAt, hq, hz, e9, List.take_of_length_le]
  | w + 1 =>
    obtain ⟨⟨w', u8, u1, u2, q8, q1, m⟩, hz⟩ := hr4 ⟨1, v8, v1, v2, r8, r1, n + 16⟩
    simp [gjS, gjE, gO0, gR0, irow] at hq
    match w' with
    | 0 => simp [gkS, gkE, gO, gR, irow] at hz; simp only [irow] at e9 ⊢; simp (maxSteps := 1000000) [exB, spec_JoinGone.m, spec_JoinGone.b, List.range_succ, bs_get, setAt, hq, hz, e9, List.take_of_length_le]
    | 1 => simp [gkS, gkE, gO, gR, irow] at hz; simp only [irow] at e9 ⊢; simp (maxSteps := 1000000) [exB, spec_JoinGone.m, spec_JoinGone.b, List.range_succ, bs_get, setAt, hq, hz, e9, List.take_of_length_le]
    | 2 => simp [gkS, gkE, gO, gR, irow] at hz; simp only [irow] at e9 ⊢; simp (maxSteps := 1000000) [exB, spec_JoinGone.m, spec_JoinGone.b, List.range_succ, bs_get, setAt, hq, hz, e9, List.take_of_length_le]
    | w' + 3 => simp [gkS, gkE, gO, gR, irow] at hz; simp only [irow] at e9 ⊢; simp (maxSteps := 1000000) [exB, spec_JoinGone.m, spec_JoinGone.b, List.range_succ, bs_get, setAt, hq, hz, e9, List.take_of_length_le]
theorem run_sort (h : M 135 = some (.ext sortG)) (zs : List Int) (hz : zs.length ≤ 4294967296) : run M 135 [.c (.row 0 0 0 zs.length)] [(0, ⟨0, 1, true, false, irow zs⟩)] = some (.tup [], [(0, ⟨0, 1, true, false, irow (sortI zs)⟩)]) := by
  refine run_ext h ?_
  simp [sortG, lentInts, rowsInts_irow, hz]
theorem run_compact (h : M 136 = some (.ext compactG)) (zs : List Int) (hz : zs.length ≤ 4294967296) :
    run M 136 [.c (.row 0 0 0 zs.length)] [(0, ⟨0, 1, true, false, irow zs⟩)] = some (.c (.row 0 0 0 (Lib.compact zs).length), [(0, ⟨0, 1, true, false, irow (Lib.compact zs ++ List.replicate (zs.length - (Lib.compact zs).length) 0)⟩)]) := by
  refine run_ext h ?_
  simp [compactG, lentInts, rowsInts_irow, hz]
theorem impl_JoinGone.says (h : impl_JoinGone.k M) (a b : List Int) (ha : a.length ≤ 1048576) (hb : b.length ≤ 1048576) : run M 44 [.c (ints a), .c (ints b)] [] = some (.c (.sl true 1 (irow (joinGone a b))), []) := by
  obtain ⟨h0, k1, k2, k3⟩ := h
  have h1 := impl_copyInts.says k1 a ha
  have hab : (a ++ b).length ≤ 4294967296 := by simp; omega
  have h2 := run_sort k2 (a ++ b) hab
  have hsl : (sortI (a ++ b)).length = (a ++ b).length := by simp [sortI]
  have h3 := run_compact k3 (sortI (a ++ b)) (by rw [hsl]; exact hab)
  rw [joinGone_sort] at h3
  have hjl : (joinGone a b).length ≤ (a ++ b).length := by
    have := gfold_len (a ++ b) []; simp only [joinGone]; simpa using this
  refine run_code (b := impl_JoinGone.m) h0 ⟨0, ?_⟩
  rw [hsl] at h3
  have e1 : irow (a ++ b) = irow a ++ irow b := by simp [irow]
  have e2 : irow (joinGone a b ++ List.replicate ((a ++ b).length - (joinGone a b).length) 0) = irow (joinGone a b) ++ irow (List.replicate ((a ++ b).length - (joinGone a b).length) 0) := by simp [irow]
  rw [e1] at h2
  rw [e2] at h3
  simp only [List.length_append] at h2 h3 hab hjl
  have l1 := irow_length a
  have l2 := irow_length b
  have l3 := irow_length (joinGone a b)
  have l4 : (irow (List.replicate (a.length + b.length - (joinGone a b).length) 0)).length = a.length + b.length - (joinGone a b).length := by simp [irow]
  have s1 := irow_scalar (sortI (a ++ b))
  have s2 := irow_scalar (joinGone a b)
  have l5 := irow_length (sortI (a ++ b))
  rw [hsl] at l5
  simp only [List.length_append] at l5
  simp only [ints] at h1 ⊢
  generalize irow (List.replicate (a.length + b.length - (joinGone a b).length) 0) = rz at *
  generalize irow (sortI (a ++ b)) = rs at *
  generalize joinGone a b = j at *
  generalize irow j = rj at *
  have e5 : a.length ≤ 4294967296 := by omega
  have e6 : j.length ≤ rj.length + rz.length := by omega
  generalize irow a = ra at *
  generalize irow b = rb at *
  simp (maxSteps := 1000000) [exB, impl_JoinGone.m, impl_JoinGone.b, List.range_succ, bs_get, setAt, h1, h2, h3, hab, l1, l2, l3, l4, l5, e5, List.take_of_length_le]
set_option maxHeartbeats 1000000 in
theorem laws_FnExactJoinGone.says (h : laws_FnExactJoinGone.k M) (a b : List Int) (ha : a.length ≤ maxLen) (hb : b.length ≤ maxLen) : run M 369 [.c (ints a), .c (ints b)] [] = some (.c (.bool true), []) := by
  obtain ⟨h0, k1, k2, k3, k4, k5, k6⟩ := h
  refine run_code (b := laws_FnExactJoinGone.m) h0 ⟨0, ?_⟩
  have hm : maxLen = 9223372036854775807 := rfl
  by_cases c1 : (1048576 : Int) < a.length
  · simp (maxSteps := 1000000) [exB, laws_FnExactJoinGone.m, laws_FnExactJoinGone.b, List.range_succ, bs_get, setAt, c1]
  by_cases c2 : (1048576 : Int) < b.length
  · simp (maxSteps := 1000000) [exB, laws_FnExactJoinGone.m, laws_FnExactJoinGone.b, List.range_succ, bs_get, setAt, c1, c2]
  have hjl : (joinGone a b).length ≤ a.length + b.length := by
    have := gfold_len (a ++ b) []; simp only [joinGone]; simpa using this
  have h1 := laws_toIntS.says k1 a (by omega)
  have h2 := laws_toIntS.says k1 b (by omega)
  have h3 := spec_JoinGone.says k2 a b (by omega) (by omega)
  have h4 := impl_JoinGone.says k3 a b (by omega) (by omega)
  generalize joinGone a b = j at *
  have h5 := laws_eqIntS.says k4 a (by omega)
  have h6 := laws_eqIntS.says k4 b (by omega)
  have h7 := laws_eqIntS.says k4 j (by omega)
  have h8 := laws_markIntS.says k5 a 1 (by omega) (by omega) (by omega)
  have h9 := laws_markIntS.says k5 b (1 + a.length) (by omega) (by omega) (by omega)
  have h10 := laws_markIntS.says k5 j 1 (by omega) (by omega) (by omega)
  have h11 := laws_heldIntS.says k6 j.length 1 (by omega) (by omega) (by omega)
  have e1 : ¬ 1 + (a.length : Int) + b.length < 0 := by omega
  have e2 : ¬ 1 + (j.length : Int) < 0 := by omega
  have l1 := irow_length a
  have l2 := irow_length b
  have l3 := irow_length j
  have s1 := irow_scalar a
  have s2 := irow_scalar b
  have s3 := irow_scalar j
  have l4 : (irow (upto 1 j.length)).length = j.length := by rw [irow_length]; simp [upto]
  simp only [ints] at *
  simp (maxSteps := 1000000) [exB, laws_FnExactJoinGone.m, laws_FnExactJoinGone.b, List.range_succ, bs_get, setAt, c1, c2, h1, h2, h3, h4, h5, h6, h7, h8, h9, h10, h11, e1, e2, l1, l2, l3, l4, s1, s2, s3, List.take_of_length_le]
theorem laws_FnExactJoinGone.row (h : laws_FnExactJoinGone.k M) {as : List V} (ha : HasVs [.cell (.sl [.int .i64]), .cell (.sl [.int .i64])] as) : run M 369 as [] = some (.c (.bool true), []) := by
  cases ha with | cons h0 ha =>
  cases ha with | cons h1 ha =>
  cases ha
  cases h0 with | cell h0 =>
  cases h1 with | cell h1 =>
  have key : ∀ {t : T}, Has (.sl [.int .i64]) t → ∃ l : List Int, t = ints l ∧ l.length ≤ maxLen := by
    intro t ht
    obtain ⟨l, rfl, hl, _⟩ := has_list (fun n : Int => [I n]) (fun _ => True) (fun r hr => by
      match r, hr with
      | [a], hr => obtain ⟨n, rfl⟩ := has_int (hr.2 0 _ a rfl rfl); exact ⟨n, rfl, trivial⟩) ht
    exact ⟨l, rfl, hl⟩
  obtain ⟨a, rfl, ha⟩ := key h0
  obtain ⟨b, rfl, hb⟩ := key h1
  exact laws_FnExactJoinGone.says h a b ha hb
end Mx
