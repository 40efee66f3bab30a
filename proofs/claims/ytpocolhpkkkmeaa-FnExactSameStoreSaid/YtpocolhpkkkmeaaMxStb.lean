/-
  Loops that go through a list up to the first place of a kind.
-/
import Derived.Test.YtpocolhpkkkmeaaMxB
import Derived.Test.YtpocolhpkkkmeaaMxSt
set_option linter.unusedSimpArgs false
set_option linter.unusedVariables false
namespace Mx
open Go
/-- the first place from i on, of the d places there, of which p says yes -/
def firstF (p : Nat → Bool) : Nat → Nat → Option Nat
  | 0, _ => none
  | d + 1, i => if p i = true then some i else firstF p d (i + 1)
def firstN (p : Nat → Bool) (n : Nat) : Option Nat := firstF p n 0
theorem firstF_none (p : Nat → Bool) : ∀ d i, firstF p d i = none → ∀ j, i ≤ j → j < i + d → p j = false
  | 0, i, _, j, h1, h2 => by omega
  | d + 1, i, h, j, h1, h2 => by
    rw [firstF] at h
    split at h
    · cases h
    · by_cases e : j = i
      · subst e; simpa using ‹¬p j = true›
      · exact firstF_none p d (i + 1) h j (by omega) (by omega)
theorem firstF_some (p : Nat → Bool) : ∀ d i k, firstF p d i = some k → i ≤ k ∧ k < i + d ∧ p k = true ∧ ∀ j, i ≤ j → j < k → p j = false
  | d + 1, i, k, h => by
    rw [firstF] at h
    split at h
    · cases h
      exact ⟨by omega, by omega, ‹_›, fun j h1 h2 => by omega⟩
    · obtain ⟨h1, h2, h3, h4⟩ := firstF_some p d (i + 1) k h
      refine ⟨by omega, by omega, h3, fun j h5 h6 => ?_⟩
      by_cases e : j = i
      · subst e; simpa using ‹¬p j = true›
      · exact h4 j (by omega) h6
theorem firstN_none {p : Nat → Bool} {n : Nat} (h : firstN p n = none) : ∀ j, j < n → p j = false := fun j hj => firstF_none p n 0 h j (by omega) (by omega)
theorem firstN_some {p : Nat → Bool} {n k : Nat} (h : firstN p n = some k) : k < n ∧ p k = true ∧ ∀ j, j < k → p j = false := by
  obtain ⟨_, h2, h3, h4⟩ := firstF_some p n 0 k h
  exact ⟨by omega, h3, fun j hj => h4 j (by omega) hj⟩
theorem firstN_isNone {p : Nat → Bool} {n : Nat} : firstN p n = none ↔ ∀ j, j < n → p j = false := by
  refine ⟨firstN_none, fun h => ?_⟩
  cases q : firstN p n with
  | none => rfl
  | some k =>
    obtain ⟨h1, h2, _⟩ := firstN_some q
    rw [h k h1] at h2; cases h2
theorem firstN_eq {p : Nat → Bool} {n k : Nat} (h1 : k < n) (h2 : p k = true) (h3 : ∀ j, j < k → p j = false) : firstN p n = some k := by
  cases q : firstN p n with
  | none => rw [firstN_none q k h1] at h2; cases h2
  | some i =>
    obtain ⟨q1, q2, q3⟩ := firstN_some q
    by_cases e : i < k
    · rw [h3 i e] at q2; cases q2
    · by_cases e' : k < i
      · rw [q3 k e'] at h2; cases h2
      · rw [show i = k by omega]
theorem first_loop {γ β : Type} (n : Nat) (p : Nat → Bool) {f : St → Option (Out × St)} (S : Nat → β → St) (fin : Option Nat → γ → Out × St) (hfin : ∀ q m, (fin q m).1 ≠ .normal)
    (h1 : ∀ i, i < n → ∀ x, p i = false → ∃ y, f (S i x) = some (.normal, S (i + 1) y)) (h2 : ∀ i, i < n → ∀ x, p i = true → ∃ m, f (S i x) = some (fin (some i) m))
    (h3 : ∀ x, ∃ m, f (S n x) = some (fin none m)) : ∃ g : β → γ, ∀ x, loopN f (n + 1) (S 0 x) = some (fin (firstN p n) (g x)) := by
  refine loop_all (f := f) S (fun i => i ≤ n) (fun i => n - i) (fun i => firstF p (n - i) i) fin ?_ (n + 1) 0 (Nat.zero_le _) (by omega)
  intro i x hi
  by_cases hlt : i < n
  · have hd : n - i = (n - (i + 1)) + 1 := by omega
    have hg : firstF p (n - i) i = if p i = true then some i else firstF p (n - (i + 1)) (i + 1) := by rw [hd, firstF]
    simp only [hg]
    by_cases c : p i = true
    · right
      obtain ⟨m, hm⟩ := h2 i hlt x c
      rw [if_pos c]
      exact ⟨m, hm, hfin _ _⟩
    · left
      obtain ⟨y, hy⟩ := h1 i hlt x (by simpa using c)
      rw [if_neg c]
      exact ⟨i + 1, y, hy, hlt, by omega, rfl⟩
  · have : i = n := by omega
    subst this
    right
    obtain ⟨m, hm⟩ := h3 x
    simp only [Nat.sub_self, firstF]
    exact ⟨m, hm, hfin _ _⟩
theorem loopN_le {f : St → Option (Out × St)} {n m : Nat} {s : St} {r : Out × St} (h : loopN f n s = some r) (hm : n ≤ m) : loopN f m s = some r := loopN_mono (fun _ _ h => h) hm h
/-- a loop that answers w at the first place found, and goes on behind itself if there is none -/
def fin1 {β : Type} (r : Nat) (w : T) (e : Nat) (E : β → St) (q : Option Nat) (m : β × Nat) : Out × St := match q with
  | none => (.exit e, E m.1)
  | some _ => (.ret, { t := [(r, .c w)], o := [], n := m.2 })
theorem early_loop {β : Type} (n : Nat) (p : Nat → Bool) {f : St → Option (Out × St)} (S : Nat → β → St) (r : Nat) (w : T) (e : Nat) (E : β → St)
    (h1 : ∀ i, i < n → ∀ x, p i = false → ∃ y, f (S i x) = some (.normal, S (i + 1) y)) (h2 : ∀ i, i < n → ∀ x, p i = true → ∃ k, f (S i x) = some (.ret, { t := [(r, .c w)], o := [], n := k }))
    (h3 : ∀ x, ∃ y, f (S n x) = some (.exit e, E y)) : ∃ g : β → β × Nat, ∀ x, loopN f (n + 1) (S 0 x) = some (fin1 r w e E (firstN p n) (g x)) :=
  first_loop n p S (fin1 r w e E) (fun q m => by cases q <;> simp [fin1]) h1 (fun i hi x c => by
    obtain ⟨k, hk⟩ := h2 i hi x c
    exact ⟨(x, k), hk⟩) (fun x => by
    obtain ⟨y, hy⟩ := h3 x
    exact ⟨(y, 0), hy⟩)
/-- a loop that goes through a whole list with what it has so far -/
theorem fold_loop {α σ β γ : Type} (l : List α) (step : σ → α → σ) (Inv : Nat → σ → Prop) {f : St → Option (Out × St)} (S : Nat → σ → β → St) (e : Nat) (E : σ → γ → St)
    (hI : ∀ i (h : i < l.length) s, Inv i s → Inv (i + 1) (step s l[i]))
    (h1 : ∀ i (h : i < l.length) s x, Inv i s → ∃ y, f (S i s x) = some (.normal, S (i + 1) (step s l[i]) y))
    (h3 : ∀ s x, Inv l.length s → ∃ y, f (S l.length s x) = some (.exit e, E s y)) (s : σ) (h0 : Inv 0 s) :
    ∃ g : β → γ, ∀ x, loopN f (l.length + 1) (S 0 s x) = some (.exit e, E (l.foldl step s) (g x)) := by
  refine loop_all (f := f) (fun p : Nat × σ => S p.1 p.2) (fun p => p.1 ≤ l.length ∧ Inv p.1 p.2) (fun p => l.length - p.1) (fun p => (l.drop p.1).foldl step p.2) (fun q m => (.exit e, E q m)) ?_ (l.length + 1) (0, s) ⟨Nat.zero_le _, h0⟩ (by simp)
  rintro ⟨i, s⟩ x ⟨hi, hs⟩
  simp only at hi hs
  by_cases hlt : i < l.length
  · left
    obtain ⟨y, hy⟩ := h1 i hlt s x hs
    refine ⟨(i + 1, step s l[i]), y, hy, ⟨hlt, hI i hlt s hs⟩, by simp only; omega, ?_⟩
    simp only
    rw [List.drop_eq_getElem_cons hlt, List.foldl_cons]
  · have : i = l.length := by omega
    subst this
    right
    obtain ⟨y, hy⟩ := h3 s x hs
    exact ⟨y, by simp [hy], by simp⟩
theorem foldl_inv {α σ : Type} (l : List α) (step : σ → α → σ) (Inv : Nat → σ → Prop) (hI : ∀ i (h : i < l.length) s, Inv i s → Inv (i + 1) (step s l[i])) : ∀ s, Inv 0 s → Inv l.length (l.foldl step s) := by
  have key : ∀ d i s, i + d = l.length → Inv i s → Inv l.length ((l.drop i).foldl step s) := by
    intro d
    induction d with
    | zero => intro i s hi h; have : i = l.length := by omega
              subst this; simpa using h
    | succ d ih =>
      intro i s hi h
      have hlt : i < l.length := by omega
      rw [List.drop_eq_getElem_cons hlt, List.foldl_cons]
      exact ih (i + 1) _ (by omega) (hI i hlt s h)
  intro s h
  simpa using key l.length 0 s (by omega) h
/-- texts one behind the other -/
def texts {α : Type} (t : α → List UInt8) (l : List α) : List UInt8 := l.flatMap t
theorem texts_fold {α : Type} (t : α → List UInt8) (l : List α) (s : List UInt8) : l.foldl (fun s x => s ++ t x) s = s ++ texts t l := by
  induction l generalizing s with
  | nil => simp [texts]
  | cons x l ih => simp [ih, texts, List.flatMap_cons]
theorem texts_len {α : Type} (t : α → List UInt8) (l : List α) (c : Nat) (h : ∀ x ∈ l, (t x).length ≤ c) : (texts t l).length ≤ l.length * c := by
  induction l with
  | nil => simp [texts]
  | cons x l ih =>
    have h1 := ih fun y hy => h y (List.mem_cons_of_mem _ hy)
    have h2 := h x (List.mem_cons_self ..)
    simp only [texts, List.flatMap_cons, List.length_append, List.length_cons] at h1 ⊢
    have : (l.length + 1) * c = l.length * c + c := Nat.succ_mul _ _
    omega
/-- a loop that puts texts behind a text -/
theorem text_loop {α β γ : Type} (l : List α) (t : α → List UInt8) (c a : Nat) (hc : ∀ x ∈ l, (t x).length ≤ c) {f : St → Option (Out × St)} (S : Nat → List UInt8 → β → St) (e : Nat) (E : List UInt8 → γ → St)
    (h1 : ∀ i (h : i < l.length) s x, s.length ≤ a + i * c → ∃ y, f (S i s x) = some (.normal, S (i + 1) (s ++ t l[i]) y))
    (h3 : ∀ s x, ∃ y, f (S l.length s x) = some (.exit e, E s y)) (s : List UInt8) (h0 : s.length ≤ a) :
    ∃ g : β → γ, ∀ x, loopN f (l.length + 1) (S 0 s x) = some (.exit e, E (s ++ texts t l) (g x)) := by
  have := fold_loop l (fun s x => s ++ t x) (fun i s => s.length ≤ a + i * c) S e E (fun i h s hs => by
    have h2 := hc _ (List.getElem_mem h)
    have : (i + 1) * c = i * c + c := Nat.succ_mul _ _
    simp only [List.length_append]; omega) h1 (fun s x _ => h3 s x) s (by simpa using h0)
  simpa only [texts_fold] using this
end Mx

/-
  Small codes: impl.StampOk, spec.StampOk, impl.RegOk, spec.RegOk, impl.FlagsOk, spec.FlagsOk, impl.isGid, impl.MailOk, spec.MailOk, impl.NameOk, spec.NameOk, impl.areGids, spec.l06Sorted, spec.l06In, slices.Index[[]int,int], slices.Contains[[]int,int], impl.BoxOk, spec.BoxOk, impl.MailText, spec.MailText, impl.boxText, impl.BoxText, spec.BoxText, laws.FnExactBoxText.
-/
namespace Mx
open Go
def impl_StampOk.b : C := .seq (.reg [⟨some 1, .box (.t 0), none⟩,
    ⟨some 2, .mv (.k (.bool false)), none⟩] [1] [1])
  (.seq (.reg [⟨some 3, .faddr 0 (.t 1), none⟩,
    ⟨some 4, .load false 1 (.t 3), none⟩,
    ⟨some 5, .call 101 [.t 4, .k (.int .i64 0), .k (.int .i64 100000)] [] [], none⟩,
    ⟨some 6, .mv (.t 5), none⟩,
    ⟨some 7, .faddr 1 (.t 1), some (6, true)⟩,
    ⟨some 8, .load false 1 (.t 7), some (6, true)⟩,
    ⟨some 9, .call 101 [.t 8, .k (.int .i64 0), .k (.int .i64 2)] [] [], some (6, true)⟩,
    ⟨some 10, .pick (.t 6) (.t 9) (.k (.bool false)), none⟩,
    ⟨some 2, .mv (.t 10), none⟩] [2] [])
  (.ret))
def impl_StampOk.m : Fn := { np := 1, body := impl_StampOk.b, res := [.tmp 2] }
def impl_StampOk.k (M : Nat → Option Body) : Prop := M 164 = some (.code impl_StampOk.m) ∧ impl_within.k M
def spec_StampOk.b : C := .seq (.reg [⟨some 1, .box (.t 0), none⟩,
    ⟨some 2, .mv (.k (.bool false)), none⟩] [1] [1])
  (.seq (.reg [⟨some 3, .faddr 0 (.t 1), none⟩,
    ⟨some 4, .load false 1 (.t 3), none⟩,
    ⟨some 5, .call 98 [.t 4, .k (.int .i64 0), .k (.int .i64 100000)] [] [], none⟩,
    ⟨some 6, .mv (.t 5), none⟩,
    ⟨some 7, .faddr 1 (.t 1), some (6, true)⟩,
    ⟨some 8, .load false 1 (.t 7), some (6, true)⟩,
    ⟨some 9, .call 98 [.t 8, .k (.int .i64 0), .k (.int .i64 2)] [] [], some (6, true)⟩,
    ⟨some 10, .pick (.t 6) (.t 9) (.k (.bool false)), none⟩,
    ⟨some 2, .mv (.t 10), none⟩] [2] [])
  (.ret))
def spec_StampOk.m : Fn := { np := 1, body := spec_StampOk.b, res := [.tmp 2] }
def spec_StampOk.k (M : Nat → Option Body) : Prop := M 183 = some (.code spec_StampOk.m) ∧ spec_l01In.k M
def impl_RegOk.b : C := .seq (.reg [⟨some 1, .box (.t 0), none⟩,
    ⟨some 2, .mv (.k (.bool false)), none⟩] [1] [1])
  (.seq (.reg [⟨some 3, .faddr 1 (.t 1), none⟩,
    ⟨some 4, .load true 2 (.t 3), none⟩,
    ⟨some 5, .call 164 [.t 4] [] [], none⟩,
    ⟨some 6, .mv (.t 5), none⟩,
    ⟨some 7, .faddr 0 (.t 1), some (6, true)⟩,
    ⟨some 8, .load false 1 (.t 7), some (6, true)⟩,
    ⟨some 9, .call 101 [.t 8, .k (.int .i64 0), .k (.int .i64 1000000000)] [] [], some (6, true)⟩,
    ⟨some 10, .pick (.t 6) (.t 9) (.k (.bool false)), none⟩,
    ⟨some 2, .mv (.t 10), none⟩] [2] [])
  (.ret))
def impl_RegOk.m : Fn := { np := 1, body := impl_RegOk.b, res := [.tmp 2] }
def impl_RegOk.k (M : Nat → Option Body) : Prop := M 272 = some (.code impl_RegOk.m) ∧ impl_within.k M ∧ impl_StampOk.k M
def spec_RegOk.b : C := .seq (.reg [⟨some 1, .box (.t 0), none⟩,
    ⟨some 2, .mv (.k (.bool false)), none⟩] [1] [1])
  (.seq (.reg [⟨some 3, .faddr 1 (.t 1), none⟩,
    ⟨some 4, .load true 2 (.t 3), none⟩,
    ⟨some 5, .call 183 [.t 4] [] [], none⟩,
    ⟨some 6, .mv (.t 5), none⟩,
    ⟨some 7, .faddr 0 (.t 1), some (6, true)⟩,
    ⟨some 8, .load false 1 (.t 7), some (6, true)⟩,
    ⟨some 9, .call 98 [.t 8, .k (.int .i64 0), .k (.int .i64 1000000000)] [] [], some (6, true)⟩,
    ⟨some 10, .pick (.t 6) (.t 9) (.k (.bool false)), none⟩,
    ⟨some 2, .mv (.t 10), none⟩] [2] [])
  (.ret))
def spec_RegOk.m : Fn := { np := 1, body := spec_RegOk.b, res := [.tmp 2] }
def spec_RegOk.k (M : Nat → Option Body) : Prop := M 276 = some (.code spec_RegOk.m) ∧ spec_l01In.k M ∧ spec_StampOk.k M
def impl_FlagsOk.l0 : C := .seq (.reg [⟨some 8, .bin .lss (.t 7) (.t 6), none⟩] [0, 5, 6, 7, 8] [])
  (.seq (.cond (.t 8) (.skip) (.exit 0))
  (.seq (.block 1 (.seq (.reg [⟨some 9, .iaddr 3 (.t 5) (.t 7), none⟩,
    ⟨some 10, .load true 3 (.t 9), none⟩,
    ⟨some 4, .alloc [.int .i64 0, .int .i64 0, .int .i64 0], none⟩,
    ⟨none, .store 3 (.t 4) (.t 10), none⟩] [0, 4, 5, 6, 7] [4])
  (.seq (.reg [⟨some 11, .load true 3 (.t 4), none⟩,
    ⟨some 12, .call 272 [.t 11] [] [], none⟩,
    ⟨some 13, .not (.t 12), none⟩,
    ⟨some 14, .mv (.t 13), none⟩,
    ⟨some 15, .faddr 0 (.t 4), some (14, false)⟩,
    ⟨some 16, .load false 1 (.t 15), some (14, false)⟩,
    ⟨some 17, .bin .gtr (.t 16) (.k (.int .i64 1)), some (14, false)⟩,
    ⟨some 18, .pick (.t 14) (.k (.bool true)) (.t 17), none⟩] [0, 5, 6, 7, 18] [])
  (.cond (.t 18) (.seq (.reg [⟨some 2, .mv (.k (.bool false)), none⟩] [2] [])
  (.ret)) (.skip)))))
  (.reg [⟨some 19, .bin .add (.t 7) (.k (.int .i64 1)), none⟩,
    ⟨some 7, .mv (.t 19), none⟩] [0, 5, 6, 7] [])))
def impl_FlagsOk.b : C := .seq (.reg [⟨some 2, .mv (.k (.bool false)), none⟩] [0] [])
  (.seq (.seq (.reg [⟨some 5, .mv (.t 0), none⟩,
    ⟨some 6, .len (.t 5), none⟩,
    ⟨some 7, .mv (.k (.int .i64 0)), none⟩] [0, 5, 6, 7] [])
  (.block 0 (.loop impl_FlagsOk.l0)))
  (.seq (.reg [⟨some 20, .mv (.t 0), none⟩,
    ⟨some 21, .len (.t 20), none⟩,
    ⟨some 22, .bin .eql (.t 21) (.k (.int .i64 3)), none⟩,
    ⟨some 2, .mv (.t 22), none⟩] [2] [])
  (.ret)))
def impl_FlagsOk.m : Fn := { np := 1, body := impl_FlagsOk.b, res := [.tmp 2] }
def impl_FlagsOk.k (M : Nat → Option Body) : Prop := M 235 = some (.code impl_FlagsOk.m) ∧ impl_RegOk.k M
def spec_FlagsOk.l0 : C := .seq (.seq (.reg [⟨some 4, .mv (.t 3), none⟩,
    ⟨some 5, .mv (.t 0), none⟩,
    ⟨some 6, .len (.t 5), none⟩,
    ⟨some 7, .bin .lss (.t 4) (.t 6), none⟩] [0, 3, 7] [])
  (.cond (.t 7) (.skip) (.exit 0)))
  (.seq (.block 1 (.seq (.reg [⟨some 10, .mv (.t 0), none⟩,
    ⟨some 11, .mv (.t 3), none⟩,
    ⟨some 12, .iaddr 3 (.t 10) (.t 11), none⟩,
    ⟨some 13, .load true 3 (.t 12), none⟩,
    ⟨some 14, .call 276 [.t 13] [] [], none⟩,
    ⟨some 15, .not (.t 14), none⟩,
    ⟨some 16, .mv (.t 15), none⟩,
    ⟨some 17, .mv (.t 0), some (16, false)⟩,
    ⟨some 18, .mv (.t 3), some (16, false)⟩,
    ⟨some 19, .iaddr 3 (.t 17) (.t 18), some (16, false)⟩,
    ⟨some 20, .faddr 0 (.t 19), some (16, false)⟩,
    ⟨some 21, .load false 1 (.t 20), some (16, false)⟩,
    ⟨some 22, .bin .gtr (.t 21) (.k (.int .i64 1)), some (16, false)⟩,
    ⟨some 23, .pick (.t 16) (.k (.bool true)) (.t 22), none⟩] [0, 3, 23] [])
  (.cond (.t 23) (.seq (.reg [⟨some 2, .mv (.k (.bool false)), none⟩] [2] [])
  (.ret)) (.skip))))
  (.reg [⟨some 8, .mv (.t 3), none⟩,
    ⟨some 9, .bin .add (.t 8) (.k (.int .i64 1)), none⟩,
    ⟨some 3, .mv (.t 9), none⟩] [0, 3] []))
def spec_FlagsOk.b : C := .seq (.reg [⟨some 2, .mv (.k (.bool false)), none⟩] [0] [])
  (.seq (.seq (.reg [⟨some 3, .mv (.k (.int .i64 0)), none⟩] [0, 3] [])
  (.block 0 (.loop spec_FlagsOk.l0)))
  (.seq (.reg [⟨some 24, .mv (.t 0), none⟩,
    ⟨some 25, .len (.t 24), none⟩,
    ⟨some 26, .bin .eql (.t 25) (.k (.int .i64 3)), none⟩,
    ⟨some 2, .mv (.t 26), none⟩] [2] [])
  (.ret)))
def spec_FlagsOk.m : Fn := { np := 1, body := spec_FlagsOk.b, res := [.tmp 2] }
def spec_FlagsOk.k (M : Nat → Option Body) : Prop := M 242 = some (.code spec_FlagsOk.m) ∧ spec_RegOk.k M
def impl_isGid.b : C := .seq (.reg [⟨some 2, .mv (.k (.bool false)), none⟩] [0] [])
  (.seq (.reg [⟨some 3, .mv (.t 0), none⟩,
    ⟨some 4, .call 101 [.t 3, .k (.int .i64 1), .k (.int .i64 9999)] [] [], none⟩,
    ⟨some 2, .mv (.t 4), none⟩] [2] [])
  (.ret))
def impl_isGid.m : Fn := { np := 1, body := impl_isGid.b, res := [.tmp 2] }
def impl_isGid.k (M : Nat → Option Body) : Prop := M 147 = some (.code impl_isGid.m) ∧ impl_within.k M
def impl_MailOk.b : C := .seq (.reg [⟨some 1, .box (.t 0), none⟩,
    ⟨some 2, .mv (.k (.bool false)), none⟩] [1] [1])
  (.seq (.reg [⟨some 3, .faddr 0 (.t 1), none⟩,
    ⟨some 4, .load false 1 (.t 3), none⟩,
    ⟨some 5, .call 147 [.t 4] [] [], none⟩,
    ⟨some 6, .mv (.t 5), none⟩,
    ⟨some 7, .faddr 1 (.t 1), some (6, true)⟩,
    ⟨some 8, .load false 1 (.t 7), some (6, true)⟩,
    ⟨some 9, .call 147 [.t 8] [] [], some (6, true)⟩,
    ⟨some 10, .pick (.t 6) (.t 9) (.k (.bool false)), none⟩,
    ⟨some 11, .mv (.t 10), none⟩,
    ⟨some 12, .faddr 2 (.t 1), some (11, true)⟩,
    ⟨some 13, .load false 1 (.t 12), some (11, true)⟩,
    ⟨some 14, .call 235 [.t 13] [] [], some (11, true)⟩,
    ⟨some 15, .pick (.t 11) (.t 14) (.k (.bool false)), none⟩,
    ⟨some 16, .mv (.t 15), none⟩,
    ⟨some 17, .faddr 3 (.t 1), some (16, true)⟩,
    ⟨some 18, .load false 1 (.t 17), some (16, true)⟩,
    ⟨some 19, .slen (.t 18), some (16, true)⟩,
    ⟨some 20, .bin .leq (.t 19) (.k (.int .i64 60)), some (16, true)⟩,
    ⟨some 21, .pick (.t 16) (.t 20) (.k (.bool false)), none⟩,
    ⟨some 2, .mv (.t 21), none⟩] [2] [])
  (.ret))
def impl_MailOk.m : Fn := { np := 1, body := impl_MailOk.b, res := [.tmp 2] }
def impl_MailOk.k (M : Nat → Option Body) : Prop := M 166 = some (.code impl_MailOk.m) ∧ impl_isGid.k M ∧ impl_FlagsOk.k M
def spec_MailOk.b : C := .seq (.reg [⟨some 1, .box (.t 0), none⟩,
    ⟨some 2, .mv (.k (.bool false)), none⟩] [1] [1])
  (.seq (.reg [⟨some 3, .faddr 0 (.t 1), none⟩,
    ⟨some 4, .load false 1 (.t 3), none⟩,
    ⟨some 5, .call 98 [.t 4, .k (.int .i64 1), .k (.int .i64 9999)] [] [], none⟩,
    ⟨some 6, .mv (.t 5), none⟩,
    ⟨some 7, .faddr 1 (.t 1), some (6, true)⟩,
    ⟨some 8, .load false 1 (.t 7), some (6, true)⟩,
    ⟨some 9, .call 98 [.t 8, .k (.int .i64 1), .k (.int .i64 9999)] [] [], some (6, true)⟩,
    ⟨some 10, .pick (.t 6) (.t 9) (.k (.bool false)), none⟩,
    ⟨some 11, .mv (.t 10), none⟩,
    ⟨some 12, .faddr 2 (.t 1), some (11, true)⟩,
    ⟨some 13, .load false 1 (.t 12), some (11, true)⟩,
    ⟨some 14, .call 242 [.t 13] [] [], some (11, true)⟩,
    ⟨some 15, .pick (.t 11) (.t 14) (.k (.bool false)), none⟩,
    ⟨some 16, .mv (.t 15), none⟩,
    ⟨some 17, .faddr 3 (.t 1), some (16, true)⟩,
    ⟨some 18, .load false 1 (.t 17), some (16, true)⟩,
    ⟨some 19, .slen (.t 18), some (16, true)⟩,
    ⟨some 20, .bin .leq (.t 19) (.k (.int .i64 60)), some (16, true)⟩,
    ⟨some 21, .pick (.t 16) (.t 20) (.k (.bool false)), none⟩,
    ⟨some 2, .mv (.t 21), none⟩] [2] [])
  (.ret))
def spec_MailOk.m : Fn := { np := 1, body := spec_MailOk.b, res := [.tmp 2] }
def spec_MailOk.k (M : Nat → Option Body) : Prop := M 187 = some (.code spec_MailOk.m) ∧ spec_l01In.k M ∧ spec_FlagsOk.k M
def impl_NameOk.l0 : C := .seq (.seq (.reg [⟨some 4, .mv (.t 3), none⟩,
    ⟨some 5, .mv (.t 0), none⟩,
    ⟨some 6, .slen (.t 5), none⟩,
    ⟨some 7, .bin .lss (.t 4) (.t 6), none⟩] [0, 3, 7] [])
  (.cond (.t 7) (.skip) (.exit 0)))
  (.seq (.block 1 (.seq (.reg [⟨some 10, .mv (.t 0), none⟩,
    ⟨some 11, .mv (.t 3), none⟩,
    ⟨some 12, .idx (.t 10) (.t 11), none⟩,
    ⟨some 13, .bin .lss (.t 12) (.k (.int .u8 97)), none⟩,
    ⟨some 14, .mv (.t 13), none⟩,
    ⟨some 15, .mv (.t 0), some (14, false)⟩,
    ⟨some 16, .mv (.t 3), some (14, false)⟩,
    ⟨some 17, .idx (.t 15) (.t 16), some (14, false)⟩,
    ⟨some 18, .bin .gtr (.t 17) (.k (.int .u8 122)), some (14, false)⟩,
    ⟨some 19, .pick (.t 14) (.k (.bool true)) (.t 18), none⟩,
    ⟨some 20, .mv (.t 19), none⟩,
    ⟨some 21, .mv (.t 0), some (20, true)⟩,
    ⟨some 22, .mv (.t 3), some (20, true)⟩,
    ⟨some 23, .idx (.t 21) (.t 22), some (20, true)⟩,
    ⟨some 24, .bin .lss (.t 23) (.k (.int .u8 48)), some (20, true)⟩,
    ⟨some 25, .mv (.t 24), some (20, true)⟩,
    ⟨some 26, .mv (.t 0), some (25, false)⟩,
    ⟨some 27, .mv (.t 3), some (25, false)⟩,
    ⟨some 28, .idx (.t 26) (.t 27), some (25, false)⟩,
    ⟨some 29, .bin .gtr (.t 28) (.k (.int .u8 57)), some (25, false)⟩,
    ⟨some 30, .pick (.t 25) (.k (.bool true)) (.t 29), some (20, true)⟩,
    ⟨some 31, .pick (.t 20) (.t 30) (.k (.bool false)), none⟩] [0, 3, 31] [])
  (.cond (.t 31) (.seq (.reg [⟨some 2, .mv (.k (.bool false)), none⟩] [2] [])
  (.ret)) (.skip))))
  (.reg [⟨some 8, .mv (.t 3), none⟩,
    ⟨some 9, .bin .add (.t 8) (.k (.int .i64 1)), none⟩,
    ⟨some 3, .mv (.t 9), none⟩] [0, 3] []))
def impl_NameOk.b : C := .seq (.reg [⟨some 2, .mv (.k (.bool false)), none⟩] [0] [])
  (.seq (.seq (.reg [⟨some 3, .mv (.k (.int .i64 0)), none⟩] [0, 3] [])
  (.block 0 (.loop impl_NameOk.l0)))
  (.seq (.reg [⟨some 32, .mv (.t 0), none⟩,
    ⟨some 33, .slen (.t 32), none⟩,
    ⟨some 34, .call 101 [.t 33, .k (.int .i64 1), .k (.int .i64 12)] [] [], none⟩,
    ⟨some 2, .mv (.t 34), none⟩] [2] [])
  (.ret)))
def impl_NameOk.m : Fn := { np := 1, body := impl_NameOk.b, res := [.tmp 2] }
def impl_NameOk.k (M : Nat → Option Body) : Prop := M 89 = some (.code impl_NameOk.m) ∧ impl_within.k M
def spec_NameOk.l0 : C := .seq (.seq (.reg [⟨some 4, .mv (.t 3), none⟩,
    ⟨some 5, .mv (.t 0), none⟩,
    ⟨some 6, .slen (.t 5), none⟩,
    ⟨some 7, .bin .lss (.t 4) (.t 6), none⟩] [0, 3, 7] [])
  (.cond (.t 7) (.skip) (.exit 0)))
  (.seq (.block 1 (.seq (.reg [⟨some 10, .mv (.t 0), none⟩,
    ⟨some 11, .mv (.t 3), none⟩,
    ⟨some 12, .idx (.t 10) (.t 11), none⟩,
    ⟨some 13, .bin .lss (.t 12) (.k (.int .u8 97)), none⟩,
    ⟨some 14, .mv (.t 13), none⟩,
    ⟨some 15, .mv (.t 0), some (14, false)⟩,
    ⟨some 16, .mv (.t 3), some (14, false)⟩,
    ⟨some 17, .idx (.t 15) (.t 16), some (14, false)⟩,
    ⟨some 18, .bin .gtr (.t 17) (.k (.int .u8 122)), some (14, false)⟩,
    ⟨some 19, .pick (.t 14) (.k (.bool true)) (.t 18), none⟩,
    ⟨some 20, .mv (.t 19), none⟩,
    ⟨some 21, .mv (.t 0), some (20, true)⟩,
    ⟨some 22, .mv (.t 3), some (20, true)⟩,
    ⟨some 23, .idx (.t 21) (.t 22), some (20, true)⟩,
    ⟨some 24, .bin .lss (.t 23) (.k (.int .u8 48)), some (20, true)⟩,
    ⟨some 25, .mv (.t 24), some (20, true)⟩,
    ⟨some 26, .mv (.t 0), some (25, false)⟩,
    ⟨some 27, .mv (.t 3), some (25, false)⟩,
    ⟨some 28, .idx (.t 26) (.t 27), some (25, false)⟩,
    ⟨some 29, .bin .gtr (.t 28) (.k (.int .u8 57)), some (25, false)⟩,
    ⟨some 30, .pick (.t 25) (.k (.bool true)) (.t 29), some (20, true)⟩,
    ⟨some 31, .pick (.t 20) (.t 30) (.k (.bool false)), none⟩] [0, 3, 31] [])
  (.cond (.t 31) (.seq (.reg [⟨some 2, .mv (.k (.bool false)), none⟩] [2] [])
  (.ret)) (.skip))))
  (.reg [⟨some 8, .mv (.t 3), none⟩,
    ⟨some 9, .bin .add (.t 8) (.k (.int .i64 1)), none⟩,
    ⟨some 3, .mv (.t 9), none⟩] [0, 3] []))
def spec_NameOk.b : C := .seq (.reg [⟨some 2, .mv (.k (.bool false)), none⟩] [0] [])
  (.seq (.seq (.reg [⟨some 3, .mv (.k (.int .i64 0)), none⟩] [0, 3] [])
  (.block 0 (.loop spec_NameOk.l0)))
  (.seq (.reg [⟨some 32, .mv (.t 0), none⟩,
    ⟨some 33, .slen (.t 32), none⟩,
    ⟨some 34, .call 98 [.t 33, .k (.int .i64 1), .k (.int .i64 12)] [] [], none⟩,
    ⟨some 2, .mv (.t 34), none⟩] [2] [])
  (.ret)))
def spec_NameOk.m : Fn := { np := 1, body := spec_NameOk.b, res := [.tmp 2] }
def spec_NameOk.k (M : Nat → Option Body) : Prop := M 90 = some (.code spec_NameOk.m) ∧ spec_l01In.k M
def impl_areGids.l0 : C := .seq (.reg [⟨some 10, .bin .lss (.t 9) (.t 8), none⟩] [0, 1, 7, 8, 9, 10] [])
  (.seq (.cond (.t 10) (.skip) (.exit 0))
  (.seq (.block 1 (.seq (.reg [⟨some 11, .mv (.t 9), none⟩,
    ⟨some 12, .iaddr 1 (.t 7) (.t 9), none⟩,
    ⟨some 13, .load false 1 (.t 12), none⟩,
    ⟨some 5, .mv (.t 11), none⟩,
    ⟨some 6, .mv (.t 13), none⟩] [0, 1, 5, 6, 7, 8, 9] [])
  (.seq (.reg [⟨some 14, .mv (.t 6), none⟩,
    ⟨some 15, .call 147 [.t 14] [] [], none⟩,
    ⟨some 16, .not (.t 15), none⟩,
    ⟨some 17, .mv (.t 16), none⟩,
    ⟨some 18, .mv (.t 5), some (17, false)⟩,
    ⟨some 19, .bin .gtr (.t 18) (.k (.int .i64 0)), some (17, false)⟩,
    ⟨some 20, .mv (.t 19), some (17, false)⟩,
    ⟨some 21, .mv (.t 0), some (20, true)⟩,
    ⟨some 22, .mv (.t 5), some (20, true)⟩,
    ⟨some 23, .bin .sub (.t 22) (.k (.int .i64 1)), some (20, true)⟩,
    ⟨some 24, .iaddr 1 (.t 21) (.t 23), some (20, true)⟩,
    ⟨some 25, .load false 1 (.t 24), some (20, true)⟩,
    ⟨some 26, .mv (.t 6), some (20, true)⟩,
    ⟨some 27, .bin .geq (.t 25) (.t 26), some (20, true)⟩,
    ⟨some 28, .pick (.t 20) (.t 27) (.k (.bool false)), some (17, false)⟩,
    ⟨some 29, .pick (.t 17) (.k (.bool true)) (.t 28), none⟩] [0, 1, 7, 8, 9, 29] [])
  (.cond (.t 29) (.seq (.reg [⟨some 4, .mv (.k (.bool false)), none⟩] [4] [])
  (.ret)) (.skip)))))
  (.reg [⟨some 30, .bin .add (.t 9) (.k (.int .i64 1)), none⟩,
    ⟨some 9, .mv (.t 30), none⟩] [0, 1, 7, 8, 9] [])))
def impl_areGids.b : C := .seq (.reg [⟨some 4, .mv (.k (.bool false)), none⟩] [0, 1] [])
  (.seq (.seq (.reg [⟨some 7, .mv (.t 0), none⟩,
    ⟨some 8, .len (.t 7), none⟩,
    ⟨some 9, .mv (.k (.int .i64 0)), none⟩] [0, 1, 7, 8, 9] [])
  (.block 0 (.loop impl_areGids.l0)))
  (.seq (.reg [⟨some 31, .mv (.t 0), none⟩,
    ⟨some 32, .len (.t 31), none⟩,
    ⟨some 33, .mv (.t 1), none⟩,
    ⟨some 34, .bin .leq (.t 32) (.t 33), none⟩,
    ⟨some 4, .mv (.t 34), none⟩] [4] [])
  (.ret)))
def impl_areGids.m : Fn := { np := 2, body := impl_areGids.b, res := [.tmp 4] }
def impl_areGids.k (M : Nat → Option Body) : Prop := M 165 = some (.code impl_areGids.m) ∧ impl_isGid.k M
def spec_l06Sorted.l0 : C := .seq (.seq (.reg [⟨some 6, .mv (.t 5), none⟩,
    ⟨some 7, .mv (.t 0), none⟩,
    ⟨some 8, .len (.t 7), none⟩,
    ⟨some 9, .bin .lss (.t 6) (.t 8), none⟩] [0, 1, 5, 9] [])
  (.cond (.t 9) (.skip) (.exit 0)))
  (.seq (.block 1 (.seq (.regd [⟨some 12, .mv (.t 0), none⟩,
    ⟨some 13, .mv (.t 5), none⟩,
    ⟨some 14, .iaddr 1 (.t 12) (.t 13), none⟩,
    ⟨some 15, .load false 1 (.t 14), none⟩,
    ⟨some 16, .call 98 [.t 15, .k (.int .i64 1), .k (.int .i64 9999)] [] [], none⟩,
    ⟨some 17, .not (.t 16), none⟩,
    ⟨some 18, .mv (.t 17), none⟩,
    ⟨some 19, .mv (.t 5), some (18, false)⟩,
    ⟨some 20, .bin .gtr (.t 19) (.k (.int .i64 0)), some (18, false)⟩,
    ⟨some 21, .mv (.t 20), some (18, false)⟩,
    ⟨some 22, .mv (.t 0), some (21, true)⟩,
    ⟨some 23, .mv (.t 5), some (21, true)⟩,
    ⟨some 24, .bin .sub (.t 23) (.k (.int .i64 1)), some (21, true)⟩,
    ⟨some 25, .iaddr 1 (.t 22) (.t 24), some (21, true)⟩,
    ⟨some 26, .load false 1 (.t 25), some (21, true)⟩,
    ⟨some 27, .mv (.t 0), some (21, true)⟩,
    ⟨some 28, .mv (.t 5), some (21, true)⟩,
    ⟨some 29, .iaddr 1 (.t 27) (.t 28), some (21, true)⟩,
    ⟨some 30, .load false 1 (.t 29), some (21, true)⟩,
    ⟨some 31, .bin .geq (.t 26) (.t 30), some (21, true)⟩,
    ⟨some 32, .pick (.t 21) (.t 31) (.k (.bool false)), some (18, false)⟩,
    ⟨some 33, .pick (.t 18) (.k (.bool true)) (.t 32), none⟩] [[], [], [0, 1], [0, 1, 2], [0, 1, 2, 3], [0, 1, 2, 3, 4], [0, 1, 2, 3, 4, 5], [0, 1, 2, 3, 4, 5, 6], [0, 1, 2, 3, 4, 5, 6, 7], [0, 1, 2, 3, 4, 5, 6, 7, 8], [0, 1, 2, 3, 4, 5, 6, 7, 8, 9], [0, 1, 2, 3, 4, 5, 6, 7, 8, 9], [0, 1, 2, 3, 4, 5, 6, 7, 8, 9, 11], [0, 1, 2, 3, 4, 5, 6, 7, 8, 9, 10, 11, 12], [0, 1, 2, 3, 4, 5, 6, 7, 8, 9, 10, 11, 12, 13], [0, 1, 2, 3, 4, 5, 6, 7, 8, 9], [0, 1, 2, 3, 4, 5, 6, 7, 8, 9], [0, 1, 2, 3, 4, 5, 6, 7, 8, 9, 15, 16], [0, 1, 2, 3, 4, 5, 6, 7, 8, 9, 15, 16, 17], [0, 1, 2, 3, 4, 5, 6, 7, 8, 9, 10, 11, 12, 13, 14, 15, 16, 17, 18], [0, 1, 2, 3, 4, 5, 6, 7, 8, 9, 10, 11, 12, 13, 14, 15, 16, 17, 18, 19], [0, 1, 2, 3, 4, 5, 6, 7, 8, 9, 10, 11, 12, 13, 14, 15, 16, 17, 18, 19, 20]] [0, 1, 5, 33] [])
  (.cond (.t 33) (.seq (.reg [⟨some 4, .mv (.k (.bool false)), none⟩] [4] [])
  (.ret)) (.skip))))
  (.reg [⟨some 10, .mv (.t 5), none⟩,
    ⟨some 11, .bin .add (.t 10) (.k (.int .i64 1)), none⟩,
    ⟨some 5, .mv (.t 11), none⟩] [0, 1, 5] []))
def spec_l06Sorted.b : C := .seq (.reg [⟨some 4, .mv (.k (.bool false)), none⟩] [0, 1] [])
  (.seq (.seq (.reg [⟨some 5, .mv (.k (.int .i64 0)), none⟩] [0, 1, 5] [])
  (.block 0 (.loop spec_l06Sorted.l0)))
  (.seq (.reg [⟨some 34, .mv (.t 0), none⟩,
    ⟨some 35, .len (.t 34), none⟩,
    ⟨some 36, .mv (.t 1), none⟩,
    ⟨some 37, .bin .leq (.t 35) (.t 36), none⟩,
    ⟨some 4, .mv (.t 37), none⟩] [4] [])
  (.ret)))
def spec_l06Sorted.m : Fn := { np := 2, body := spec_l06Sorted.b, res := [.tmp 4] }
def spec_l06Sorted.k (M : Nat → Option Body) : Prop := M 186 = some (.code spec_l06Sorted.m) ∧ spec_l01In.k M
def spec_l06In.l0 : C := .seq (.seq (.reg [⟨some 6, .mv (.t 5), none⟩,
    ⟨some 7, .mv (.t 0), none⟩,
    ⟨some 8, .len (.t 7), none⟩,
    ⟨some 9, .bin .lss (.t 6) (.t 8), none⟩] [0, 1, 5, 9] [])
  (.cond (.t 9) (.skip) (.exit 0)))
  (.seq (.block 1 (.seq (.reg [⟨some 12, .mv (.t 0), none⟩,
    ⟨some 13, .mv (.t 5), none⟩,
    ⟨some 14, .iaddr 1 (.t 12) (.t 13), none⟩,
    ⟨some 15, .load false 1 (.t 14), none⟩,
    ⟨some 16, .mv (.t 1), none⟩,
    ⟨some 17, .bin .eql (.t 15) (.t 16), none⟩] [0, 1, 5, 17] [])
  (.cond (.t 17) (.seq (.reg [⟨some 4, .mv (.k (.bool true)), none⟩] [4] [])
  (.ret)) (.skip))))
  (.reg [⟨some 10, .mv (.t 5), none⟩,
    ⟨some 11, .bin .add (.t 10) (.k (.int .i64 1)), none⟩,
    ⟨some 5, .mv (.t 11), none⟩] [0, 1, 5] []))
def spec_l06In.b : C := .seq (.reg [⟨some 4, .mv (.k (.bool false)), none⟩] [0, 1] [])
  (.seq (.seq (.reg [⟨some 5, .mv (.k (.int .i64 0)), none⟩] [0, 1, 5] [])
  (.block 0 (.loop spec_l06In.l0)))
  (.seq (.reg [⟨some 4, .mv (.k (.bool false)), none⟩] [4] [])
  (.ret)))
def spec_l06In.m : Fn := { np := 2, body := spec_l06In.b, res := [.tmp 4] }
def spec_l06In.k (M : Nat → Option Body) : Prop := M 132 = some (.code spec_l06In.m)
def slices_Index_int_int.l0 : C := .seq (.reg [⟨some 9, .bin .lss (.t 8) (.t 7), none⟩] [0, 1, 7, 8, 9] [])
  (.seq (.cond (.t 9) (.skip) (.exit 0))
  (.seq (.block 1 (.seq (.reg [⟨some 10, .mv (.t 8), none⟩,
    ⟨some 5, .mv (.t 10), none⟩] [0, 1, 5, 7, 8] [])
  (.seq (.reg [⟨some 11, .mv (.t 1), none⟩,
    ⟨some 12, .mv (.t 0), none⟩,
    ⟨some 13, .mv (.t 5), none⟩,
    ⟨some 14, .iaddr 1 (.t 12) (.t 13), none⟩,
    ⟨some 15, .load false 1 (.t 14), none⟩,
    ⟨some 16, .bin .eql (.t 11) (.t 15), none⟩] [0, 1, 5, 7, 8, 16] [])
  (.cond (.t 16) (.seq (.reg [⟨some 17, .mv (.t 5), none⟩,
    ⟨some 4, .mv (.t 17), none⟩] [4] [])
  (.ret)) (.skip)))))
  (.reg [⟨some 18, .bin .add (.t 8) (.k (.int .i64 1)), none⟩,
    ⟨some 8, .mv (.t 18), none⟩] [0, 1, 7, 8] [])))
def slices_Index_int_int.b : C := .seq (.reg [⟨some 4, .mv (.k (.int .i64 0)), none⟩] [0, 1] [])
  (.seq (.seq (.reg [⟨some 6, .mv (.t 0), none⟩,
    ⟨some 7, .len (.t 6), none⟩,
    ⟨some 8, .mv (.k (.int .i64 0)), none⟩] [0, 1, 7, 8] [])
  (.block 0 (.loop slices_Index_int_int.l0)))
  (.seq (.reg [⟨some 4, .mv (.k (.int .i64 (-1))), none⟩] [4] [])
  (.ret)))
def slices_Index_int_int.m : Fn := { np := 2, body := slices_Index_int_int.b, res := [.tmp 4] }
def slices_Index_int_int.k (M : Nat → Option Body) : Prop := M 234 = some (.code slices_Index_int_int.m)
def slices_Contains_int_int.b : C := .seq (.reg [⟨some 4, .mv (.k (.bool false)), none⟩] [0, 1] [])
  (.seq (.reg [⟨some 5, .mv (.t 0), none⟩,
    ⟨some 6, .mv (.t 1), none⟩,
    ⟨some 7, .call 234 [.t 5, .t 6] [] [], none⟩,
    ⟨some 8, .bin .geq (.t 7) (.k (.int .i64 0)), none⟩,
    ⟨some 4, .mv (.t 8), none⟩] [4] [])
  (.ret))
def slices_Contains_int_int.m : Fn := { np := 2, body := slices_Contains_int_int.b, res := [.tmp 4] }
def slices_Contains_int_int.k (M : Nat → Option Body) : Prop := M 156 = some (.code slices_Contains_int_int.m) ∧ slices_Index_int_int.k M
def impl_BoxOk.l0 : C := .seq (.reg [⟨some 43, .bin .lss (.t 42) (.t 41), none⟩] [1, 40, 41, 42, 43] [1])
  (.seq (.cond (.t 43) (.skip) (.exit 0))
  (.seq (.block 1 (.seq (.reg [⟨some 44, .mv (.t 42), none⟩,
    ⟨some 45, .iaddr 4 (.t 40) (.t 42), none⟩,
    ⟨some 46, .load true 4 (.t 45), none⟩,
    ⟨some 4, .alloc [.int .i64 0, .int .i64 0, .nils 3, .str ⟨#[]⟩], none⟩,
    ⟨some 3, .mv (.t 44), none⟩,
    ⟨none, .store 4 (.t 4) (.t 46), none⟩] [1, 3, 4, 40, 41, 42] [1, 4])
  (.seq (.regd [⟨some 47, .load true 4 (.t 4), none⟩,
    ⟨some 48, .call 166 [.t 47] [] [], none⟩,
    ⟨some 49, .not (.t 48), none⟩,
    ⟨some 50, .mv (.t 49), none⟩,
    ⟨some 51, .faddr 1 (.t 4), some (50, false)⟩,
    ⟨some 52, .load false 1 (.t 51), some (50, false)⟩,
    ⟨some 53, .faddr 4 (.t 1), some (50, false)⟩,
    ⟨some 54, .load false 1 (.t 53), some (50, false)⟩,
    ⟨some 55, .bin .geq (.t 52) (.t 54), some (50, false)⟩,
    ⟨some 56, .pick (.t 50) (.k (.bool true)) (.t 55), none⟩,
    ⟨some 57, .mv (.t 56), none⟩,
    ⟨some 58, .mv (.t 3), some (57, false)⟩,
    ⟨some 59, .bin .gtr (.t 58) (.k (.int .i64 0)), some (57, false)⟩,
    ⟨some 60, .mv (.t 59), some (57, false)⟩,
    ⟨some 61, .faddr 5 (.t 1), some (60, true)⟩,
    ⟨some 62, .load false 1 (.t 61), some (60, true)⟩,
    ⟨some 63, .mv (.t 3), some (60, true)⟩,
    ⟨some 64, .bin .sub (.t 63) (.k (.int .i64 1)), some (60, true)⟩,
    ⟨some 65, .iaddr 4 (.t 62) (.t 64), some (60, true)⟩,
    ⟨some 66, .faddr 1 (.t 65), some (60, true)⟩,
    ⟨some 67, .load false 1 (.t 66), some (60, true)⟩,
    ⟨some 68, .faddr 1 (.t 4), some (60, true)⟩,
    ⟨some 69, .load false 1 (.t 68), some (60, true)⟩,
    ⟨some 70, .bin .geq (.t 67) (.t 69), some (60, true)⟩,
    ⟨some 71, .pick (.t 60) (.t 70) (.k (.bool false)), some (57, false)⟩,
    ⟨some 72, .pick (.t 57) (.k (.bool true)) (.t 71), none⟩,
    ⟨some 73, .mv (.t 72), none⟩,
    ⟨some 74, .load true 7 (.t 1), some (73, false)⟩,
    ⟨some 75, .faddr 0 (.t 4), some (73, false)⟩,
    ⟨some 76, .load false 1 (.t 75), some (73, false)⟩,
    ⟨some 77, .call 72 [.t 74, .t 76] [] [], some (73, false)⟩,
    ⟨some 78, .mv (.t 3), some (73, false)⟩,
    ⟨some 79, .bin .neq (.t 77) (.t 78), some (73, false)⟩,
    ⟨some 80, .pick (.t 73) (.k (.bool true)) (.t 79), none⟩,
    ⟨some 81, .mv (.t 80), none⟩,
    ⟨some 82, .faddr 6 (.t 1), some (81, false)⟩,
    ⟨some 83, .load false 1 (.t 82), some (81, false)⟩,
    ⟨some 84, .faddr 0 (.t 4), some (81, false)⟩,
    ⟨some 85, .load false 1 (.t 84), some (81, false)⟩,
    ⟨some 86, .call 156 [.t 83, .t 85] [] [], some (81, false)⟩,
    ⟨some 87, .pick (.t 81) (.k (.bool true)) (.t 86), none⟩] [[], [0], [0, 1], [0, 1, 2], [0, 1, 2, 3], [0, 1, 2, 3, 4], [0, 1, 2, 3], [0, 1, 2, 3, 6], [0, 1, 2, 3, 4, 5, 6, 7], [0, 1, 2, 3, 4, 5, 6, 7, 8], [0, 1, 2, 3, 4, 5, 6, 7, 8, 9], [0, 1, 2, 3, 4, 5, 6, 7, 8, 9, 10], [0, 1, 2, 3, 4, 5, 6, 7, 8, 9, 10, 11], [0, 1, 2, 3, 4, 5, 6, 7, 8, 9, 10, 11, 12], [0, 1, 2, 3, 4, 5, 6, 7, 8, 9, 10, 11, 12, 13], [0, 1, 2, 3, 4, 5, 6, 7, 8, 9, 10, 11, 12, 13, 14], [0, 1, 2, 3, 4, 5, 6, 7, 8, 9, 10, 11, 12, 13], [0, 1, 2, 3, 4, 5, 6, 7, 8, 9, 10, 11, 12, 13, 16], [0, 1, 2, 3, 4, 5, 6, 7, 8, 9, 10, 11, 12, 13, 14, 15, 16, 17], [0, 1, 2, 3, 4, 5, 6, 7, 8, 9, 10, 11, 12, 13, 14, 15, 16, 17, 18], [0, 1, 2, 3, 4, 5, 6, 7, 8, 9, 10, 11, 12, 13, 14, 15, 16, 17, 18, 19], [0, 1, 2, 3, 4, 5, 6, 7, 8, 9, 10, 11, 12, 13], [0, 1, 2, 3, 4, 5, 6, 7, 8, 9, 10, 11, 12, 13, 21], [0, 1, 2, 3, 4, 5, 6, 7, 8, 9, 10, 11, 12, 13, 14, 15, 16, 17, 18, 19, 20, 21, 22], [0, 1, 2, 3, 4, 5, 6, 7, 8, 9, 10, 11, 12, 13, 14, 15, 16, 17, 18, 19, 20, 21, 22, 23], [0, 1, 2, 3, 4, 5, 6, 7, 8, 9, 10, 11, 12, 13, 14, 15, 16, 17, 18, 19, 20, 21, 22, 23, 24], [0, 1, 2, 3, 4, 5, 6, 7, 8, 9, 10, 11, 12, 13, 14, 15, 16, 17, 18, 19, 20, 21, 22, 23, 24, 25], [0, 1, 2, 3, 4, 5, 6, 7, 8, 9, 10, 11, 12, 13, 14, 15, 16, 17, 18, 19, 20, 21, 22, 23, 24, 25, 26], [0, 1, 2, 3, 4, 5, 6, 7, 8, 9, 10, 11, 12, 13, 14, 15, 16, 17, 18, 19, 20, 21, 22, 23, 24, 25, 26], [0, 1, 2, 3, 4, 5, 6, 7, 8, 9, 10, 11, 12, 13, 14, 15, 16, 17, 18, 19, 20, 21, 22, 23, 24, 25, 26, 28], [0, 1, 2, 3, 4, 5, 6, 7, 8, 9, 10, 11, 12, 13, 14, 15, 16, 17, 18, 19, 20, 21, 22, 23, 24, 25, 26, 27, 28, 29], [0, 1, 2, 3, 4, 5, 6, 7, 8, 9, 10, 11, 12, 13, 14, 15, 16, 17, 18, 19, 20, 21, 22, 23, 24, 25, 26], [0, 1, 2, 3, 4, 5, 6, 7, 8, 9, 10, 11, 12, 13, 14, 15, 16, 17, 18, 19, 20, 21, 22, 23, 24, 25, 26, 27, 28, 29, 30, 31], [0, 1, 2, 3, 4, 5, 6, 7, 8, 9, 10, 11, 12, 13, 14, 15, 16, 17, 18, 19, 20, 21, 22, 23, 24, 25, 26, 27, 28, 29, 30, 31, 32], [0, 1, 2, 3, 4, 5, 6, 7, 8, 9, 10, 11, 12, 13, 14, 15, 16, 17, 18, 19, 20, 21, 22, 23, 24, 25, 26, 27, 28, 29, 30, 31, 32, 33], [0, 1, 2, 3, 4, 5, 6, 7, 8, 9, 10, 11, 12, 13, 14, 15, 16, 17, 18, 19, 20, 21, 22, 23, 24, 25, 26, 27, 28, 29, 30, 31, 32, 33, 34], [0, 1, 2, 3, 4, 5, 6, 7, 8, 9, 10, 11, 12, 13, 14, 15, 16, 17, 18, 19, 20, 21, 22, 23, 24, 25, 26, 27, 28, 29, 30, 31, 32, 33, 34, 35], [0, 1, 2, 3, 4, 5, 6, 7, 8, 9, 10, 11, 12, 13, 14, 15, 16, 17, 18, 19, 20, 21, 22, 23, 24, 25, 26, 27, 28, 29, 30, 31, 32, 33, 34], [0, 1, 2, 3, 4, 5, 6, 7, 8, 9, 10, 11, 12, 13, 14, 15, 16, 17, 18, 19, 20, 21, 22, 23, 24, 25, 26, 27, 28, 29, 30, 31, 32, 33, 34, 37], [0, 1, 2, 3, 4, 5, 6, 7, 8, 9, 10, 11, 12, 13, 14, 15, 16, 17, 18, 19, 20, 21, 22, 23, 24, 25, 26, 27, 28, 29, 30, 31, 32, 33, 34, 35, 36, 37, 38], [0, 1, 2, 3, 4, 5, 6, 7, 8, 9, 10, 11, 12, 13, 14, 15, 16, 17, 18, 19, 20, 21, 22, 23, 24, 25, 26, 27, 28, 29, 30, 31, 32, 33, 34, 35, 36, 37, 38, 39]] [1, 40, 41, 42, 87] [1])
  (.cond (.t 87) (.seq (.reg [⟨some 2, .mv (.k (.bool false)), none⟩] [2] [])
  (.ret)) (.skip)))))
  (.reg [⟨some 88, .bin .add (.t 42) (.k (.int .i64 1)), none⟩,
    ⟨some 42, .mv (.t 88), none⟩] [1, 40, 41, 42] [1])))
def impl_BoxOk.b : C := .seq (.reg [⟨some 1, .box (.t 0), none⟩,
    ⟨some 2, .mv (.k (.bool false)), none⟩] [1] [1])
  (.seq (.seq (.reg [⟨some 5, .faddr 0 (.t 1), none⟩,
    ⟨some 6, .load false 1 (.t 5), none⟩,
    ⟨some 7, .call 147 [.t 6] [] [], none⟩,
    ⟨some 8, .not (.t 7), none⟩,
    ⟨some 9, .mv (.t 8), none⟩,
    ⟨some 10, .faddr 1 (.t 1), some (9, false)⟩,
    ⟨some 11, .load false 1 (.t 10), some (9, false)⟩,
    ⟨some 12, .call 89 [.t 11] [] [], some (9, false)⟩,
    ⟨some 13, .not (.t 12), some (9, false)⟩,
    ⟨some 14, .pick (.t 9) (.k (.bool true)) (.t 13), none⟩,
    ⟨some 15, .mv (.t 14), none⟩,
    ⟨some 16, .faddr 2 (.t 1), some (15, false)⟩,
    ⟨some 17, .load true 2 (.t 16), some (15, false)⟩,
    ⟨some 18, .call 164 [.t 17] [] [], some (15, false)⟩,
    ⟨some 19, .not (.t 18), some (15, false)⟩,
    ⟨some 20, .pick (.t 15) (.k (.bool true)) (.t 19), none⟩,
    ⟨some 21, .mv (.t 20), none⟩,
    ⟨some 22, .faddr 4 (.t 1), some (21, false)⟩,
    ⟨some 23, .load false 1 (.t 22), some (21, false)⟩,
    ⟨some 24, .call 101 [.t 23, .k (.int .i64 1), .k (.int .i64 10000)] [] [], some (21, false)⟩,
    ⟨some 25, .not (.t 24), some (21, false)⟩,
    ⟨some 26, .pick (.t 21) (.k (.bool true)) (.t 25), none⟩,
    ⟨some 27, .mv (.t 26), none⟩,
    ⟨some 28, .faddr 5 (.t 1), some (27, false)⟩,
    ⟨some 29, .load false 1 (.t 28), some (27, false)⟩,
    ⟨some 30, .len (.t 29), some (27, false)⟩,
    ⟨some 31, .bin .gtr (.t 30) (.k (.int .i64 10)), some (27, false)⟩,
    ⟨some 32, .pick (.t 27) (.k (.bool true)) (.t 31), none⟩,
    ⟨some 33, .mv (.t 32), none⟩,
    ⟨some 34, .faddr 6 (.t 1), some (33, false)⟩,
    ⟨some 35, .load false 1 (.t 34), some (33, false)⟩,
    ⟨some 36, .call 165 [.t 35, .k (.int .i64 40)] [] [], some (33, false)⟩,
    ⟨some 37, .not (.t 36), some (33, false)⟩,
    ⟨some 38, .pick (.t 33) (.k (.bool true)) (.t 37), none⟩] [1, 38] [1])
  (.cond (.t 38) (.seq (.reg [⟨some 2, .mv (.k (.bool false)), none⟩] [2] [])
  (.ret)) (.skip)))
  (.seq (.seq (.reg [⟨some 39, .faddr 5 (.t 1), none⟩,
    ⟨some 40, .load false 1 (.t 39), none⟩,
    ⟨some 41, .len (.t 40), none⟩,
    ⟨some 42, .mv (.k (.int .i64 0)), none⟩] [1, 40, 41, 42] [1])
  (.block 0 (.loop impl_BoxOk.l0)))
  (.seq (.reg [⟨some 2, .mv (.k (.bool true)), none⟩] [2] [])
  (.ret))))
def impl_BoxOk.m : Fn := { np := 1, body := impl_BoxOk.b, res := [.tmp 2] }
def impl_BoxOk.k (M : Nat → Option Body) : Prop := M 74 = some (.code impl_BoxOk.m) ∧ impl_MailAt.k M ∧ impl_NameOk.k M ∧ impl_within.k M ∧ impl_isGid.k M ∧ slices_Contains_int_int.k M ∧ impl_StampOk.k M ∧ impl_areGids.k M ∧ impl_MailOk.k M
def spec_BoxOk.l0 : C := .seq (.seq (.reg [⟨some 39, .mv (.t 3), none⟩,
    ⟨some 40, .faddr 5 (.t 1), none⟩,
    ⟨some 41, .load false 1 (.t 40), none⟩,
    ⟨some 42, .len (.t 41), none⟩,
    ⟨some 43, .bin .lss (.t 39) (.t 42), none⟩] [1, 3, 43] [1])
  (.cond (.t 43) (.skip) (.exit 0)))
  (.seq (.block 1 (.seq (.reg [⟨some 46, .faddr 5 (.t 1), none⟩,
    ⟨some 47, .load false 1 (.t 46), none⟩,
    ⟨some 48, .mv (.t 3), none⟩,
    ⟨some 49, .iaddr 4 (.t 47) (.t 48), none⟩,
    ⟨some 50, .load true 4 (.t 49), none⟩,
    ⟨some 4, .alloc [.int .i64 0, .int .i64 0, .nils 3, .str ⟨#[]⟩], none⟩,
    ⟨none, .store 4 (.t 4) (.t 50), none⟩] [1, 3, 4] [1, 4])
  (.seq (.regd [⟨some 51, .load true 4 (.t 4), none⟩,
    ⟨some 52, .call 187 [.t 51] [] [], none⟩,
    ⟨some 53, .not (.t 52), none⟩,
    ⟨some 54, .mv (.t 53), none⟩,
    ⟨some 55, .faddr 1 (.t 4), some (54, false)⟩,
    ⟨some 56, .load false 1 (.t 55), some (54, false)⟩,
    ⟨some 57, .faddr 4 (.t 1), some (54, false)⟩,
    ⟨some 58, .load false 1 (.t 57), some (54, false)⟩,
    ⟨some 59, .bin .geq (.t 56) (.t 58), some (54, false)⟩,
    ⟨some 60, .pick (.t 54) (.k (.bool true)) (.t 59), none⟩,
    ⟨some 61, .mv (.t 60), none⟩,
    ⟨some 62, .mv (.t 3), some (61, false)⟩,
    ⟨some 63, .bin .gtr (.t 62) (.k (.int .i64 0)), some (61, false)⟩,
    ⟨some 64, .mv (.t 63), some (61, false)⟩,
    ⟨some 65, .faddr 5 (.t 1), some (64, true)⟩,
    ⟨some 66, .load false 1 (.t 65), some (64, true)⟩,
    ⟨some 67, .mv (.t 3), some (64, true)⟩,
    ⟨some 68, .bin .sub (.t 67) (.k (.int .i64 1)), some (64, true)⟩,
    ⟨some 69, .iaddr 4 (.t 66) (.t 68), some (64, true)⟩,
    ⟨some 70, .faddr 1 (.t 69), some (64, true)⟩,
    ⟨some 71, .load false 1 (.t 70), some (64, true)⟩,
    ⟨some 72, .faddr 1 (.t 4), some (64, true)⟩,
    ⟨some 73, .load false 1 (.t 72), some (64, true)⟩,
    ⟨some 74, .bin .geq (.t 71) (.t 73), some (64, true)⟩,
    ⟨some 75, .pick (.t 64) (.t 74) (.k (.bool false)), some (61, false)⟩,
    ⟨some 76, .pick (.t 61) (.k (.bool true)) (.t 75), none⟩,
    ⟨some 77, .mv (.t 76), none⟩,
    ⟨some 78, .faddr 6 (.t 1), some (77, false)⟩,
    ⟨some 79, .load false 1 (.t 78), some (77, false)⟩,
    ⟨some 80, .faddr 0 (.t 4), some (77, false)⟩,
    ⟨some 81, .load false 1 (.t 80), some (77, false)⟩,
    ⟨some 82, .call 132 [.t 79, .t 81] [] [], some (77, false)⟩,
    ⟨some 83, .pick (.t 77) (.k (.bool true)) (.t 82), none⟩,
    ⟨some 84, .mv (.t 83), none⟩,
    ⟨some 85, .load true 7 (.t 1), some (84, false)⟩,
    ⟨some 86, .faddr 0 (.t 4), some (84, false)⟩,
    ⟨some 87, .load false 1 (.t 86), some (84, false)⟩,
    ⟨some 88, .call 91 [.t 85, .t 87] [] [], some (84, false)⟩,
    ⟨some 89, .mv (.t 3), some (84, false)⟩,
    ⟨some 90, .bin .neq (.t 88) (.t 89), some (84, false)⟩,
    ⟨some 91, .pick (.t 84) (.k (.bool true)) (.t 90), none⟩] [[], [0], [0, 1], [0, 1, 2], [0, 1, 2, 3], [0, 1, 2, 3, 4], [0, 1, 2, 3], [0, 1, 2, 3, 6], [0, 1, 2, 3, 4, 5, 6, 7], [0, 1, 2, 3, 4, 5, 6, 7, 8], [0, 1, 2, 3, 4, 5, 6, 7, 8, 9], [0, 1, 2, 3, 4, 5, 6, 7, 8, 9, 10], [0, 1, 2, 3, 4, 5, 6, 7, 8, 9, 10, 11], [0, 1, 2, 3, 4, 5, 6, 7, 8, 9, 10, 11, 12], [0, 1, 2, 3, 4, 5, 6, 7, 8, 9, 10, 11, 12, 13], [0, 1, 2, 3, 4, 5, 6, 7, 8, 9, 10, 11, 12, 13, 14], [0, 1, 2, 3, 4, 5, 6, 7, 8, 9, 10, 11, 12, 13], [0, 1, 2, 3, 4, 5, 6, 7, 8, 9, 10, 11, 12, 13, 16], [0, 1, 2, 3, 4, 5, 6, 7, 8, 9, 10, 11, 12, 13, 14, 15, 16, 17], [0, 1, 2, 3, 4, 5, 6, 7, 8, 9, 10, 11, 12, 13, 14, 15, 16, 17, 18], [0, 1, 2, 3, 4, 5, 6, 7, 8, 9, 10, 11, 12, 13, 14, 15, 16, 17, 18, 19], [0, 1, 2, 3, 4, 5, 6, 7, 8, 9, 10, 11, 12, 13], [0, 1, 2, 3, 4, 5, 6, 7, 8, 9, 10, 11, 12, 13, 21], [0, 1, 2, 3, 4, 5, 6, 7, 8, 9, 10, 11, 12, 13, 14, 15, 16, 17, 18, 19, 20, 21, 22], [0, 1, 2, 3, 4, 5, 6, 7, 8, 9, 10, 11, 12, 13, 14, 15, 16, 17, 18, 19, 20, 21, 22, 23], [0, 1, 2, 3, 4, 5, 6, 7, 8, 9, 10, 11, 12, 13, 14, 15, 16, 17, 18, 19, 20, 21, 22, 23, 24], [0, 1, 2, 3, 4, 5, 6, 7, 8, 9, 10, 11, 12, 13, 14, 15, 16, 17, 18, 19, 20, 21, 22, 23, 24, 25], [0, 1, 2, 3, 4, 5, 6, 7, 8, 9, 10, 11, 12, 13, 14, 15, 16, 17, 18, 19, 20, 21, 22, 23, 24, 25, 26], [0, 1, 2, 3, 4, 5, 6, 7, 8, 9, 10, 11, 12, 13, 14, 15, 16, 17, 18, 19, 20, 21, 22, 23, 24, 25, 26, 27], [0, 1, 2, 3, 4, 5, 6, 7, 8, 9, 10, 11, 12, 13, 14, 15, 16, 17, 18, 19, 20, 21, 22, 23, 24, 25, 26], [0, 1, 2, 3, 4, 5, 6, 7, 8, 9, 10, 11, 12, 13, 14, 15, 16, 17, 18, 19, 20, 21, 22, 23, 24, 25, 26, 29], [0, 1, 2, 3, 4, 5, 6, 7, 8, 9, 10, 11, 12, 13, 14, 15, 16, 17, 18, 19, 20, 21, 22, 23, 24, 25, 26, 27, 28, 29, 30], [0, 1, 2, 3, 4, 5, 6, 7, 8, 9, 10, 11, 12, 13, 14, 15, 16, 17, 18, 19, 20, 21, 22, 23, 24, 25, 26, 27, 28, 29, 30, 31], [0, 1, 2, 3, 4, 5, 6, 7, 8, 9, 10, 11, 12, 13, 14, 15, 16, 17, 18, 19, 20, 21, 22, 23, 24, 25, 26, 27, 28, 29, 30, 31, 32], [0, 1, 2, 3, 4, 5, 6, 7, 8, 9, 10, 11, 12, 13, 14, 15, 16, 17, 18, 19, 20, 21, 22, 23, 24, 25, 26, 27, 28, 29, 30, 31, 32, 33], [0, 1, 2, 3, 4, 5, 6, 7, 8, 9, 10, 11, 12, 13, 14, 15, 16, 17, 18, 19, 20, 21, 22, 23, 24, 25, 26, 27, 28, 29, 30, 31, 32, 33], [0, 1, 2, 3, 4, 5, 6, 7, 8, 9, 10, 11, 12, 13, 14, 15, 16, 17, 18, 19, 20, 21, 22, 23, 24, 25, 26, 27, 28, 29, 30, 31, 32, 33, 35], [0, 1, 2, 3, 4, 5, 6, 7, 8, 9, 10, 11, 12, 13, 14, 15, 16, 17, 18, 19, 20, 21, 22, 23, 24, 25, 26, 27, 28, 29, 30, 31, 32, 33, 34, 35, 36], [0, 1, 2, 3, 4, 5, 6, 7, 8, 9, 10, 11, 12, 13, 14, 15, 16, 17, 18, 19, 20, 21, 22, 23, 24, 25, 26, 27, 28, 29, 30, 31, 32, 33], [0, 1, 2, 3, 4, 5, 6, 7, 8, 9, 10, 11, 12, 13, 14, 15, 16, 17, 18, 19, 20, 21, 22, 23, 24, 25, 26, 27, 28, 29, 30, 31, 32, 33, 34, 35, 36, 37, 38], [0, 1, 2, 3, 4, 5, 6, 7, 8, 9, 10, 11, 12, 13, 14, 15, 16, 17, 18, 19, 20, 21, 22, 23, 24, 25, 26, 27, 28, 29, 30, 31, 32, 33, 34, 35, 36, 37, 38, 39]] [1, 3, 91] [1])
  (.cond (.t 91) (.seq (.reg [⟨some 2, .mv (.k (.bool false)), none⟩] [2] [])
  (.ret)) (.skip)))))
  (.reg [⟨some 44, .mv (.t 3), none⟩,
    ⟨some 45, .bin .add (.t 44) (.k (.int .i64 1)), none⟩,
    ⟨some 3, .mv (.t 45), none⟩] [1, 3] [1]))
def spec_BoxOk.b : C := .seq (.reg [⟨some 1, .box (.t 0), none⟩,
    ⟨some 2, .mv (.k (.bool false)), none⟩] [1] [1])
  (.seq (.seq (.reg [⟨some 5, .faddr 0 (.t 1), none⟩,
    ⟨some 6, .load false 1 (.t 5), none⟩,
    ⟨some 7, .call 98 [.t 6, .k (.int .i64 1), .k (.int .i64 9999)] [] [], none⟩,
    ⟨some 8, .not (.t 7), none⟩,
    ⟨some 9, .mv (.t 8), none⟩,
    ⟨some 10, .faddr 1 (.t 1), some (9, false)⟩,
    ⟨some 11, .load false 1 (.t 10), some (9, false)⟩,
    ⟨some 12, .call 90 [.t 11] [] [], some (9, false)⟩,
    ⟨some 13, .not (.t 12), some (9, false)⟩,
    ⟨some 14, .pick (.t 9) (.k (.bool true)) (.t 13), none⟩,
    ⟨some 15, .mv (.t 14), none⟩,
    ⟨some 16, .faddr 2 (.t 1), some (15, false)⟩,
    ⟨some 17, .load true 2 (.t 16), some (15, false)⟩,
    ⟨some 18, .call 183 [.t 17] [] [], some (15, false)⟩,
    ⟨some 19, .not (.t 18), some (15, false)⟩,
    ⟨some 20, .pick (.t 15) (.k (.bool true)) (.t 19), none⟩,
    ⟨some 21, .mv (.t 20), none⟩,
    ⟨some 22, .faddr 4 (.t 1), some (21, false)⟩,
    ⟨some 23, .load false 1 (.t 22), some (21, false)⟩,
    ⟨some 24, .call 98 [.t 23, .k (.int .i64 1), .k (.int .i64 10000)] [] [], some (21, false)⟩,
    ⟨some 25, .not (.t 24), some (21, false)⟩,
    ⟨some 26, .pick (.t 21) (.k (.bool true)) (.t 25), none⟩,
    ⟨some 27, .mv (.t 26), none⟩,
    ⟨some 28, .faddr 5 (.t 1), some (27, false)⟩,
    ⟨some 29, .load false 1 (.t 28), some (27, false)⟩,
    ⟨some 30, .len (.t 29), some (27, false)⟩,
    ⟨some 31, .bin .gtr (.t 30) (.k (.int .i64 10)), some (27, false)⟩,
    ⟨some 32, .pick (.t 27) (.k (.bool true)) (.t 31), none⟩,
    ⟨some 33, .mv (.t 32), none⟩,
    ⟨some 34, .faddr 6 (.t 1), some (33, false)⟩,
    ⟨some 35, .load false 1 (.t 34), some (33, false)⟩,
    ⟨some 36, .call 186 [.t 35, .k (.int .i64 40)] [] [], some (33, false)⟩,
    ⟨some 37, .not (.t 36), some (33, false)⟩,
    ⟨some 38, .pick (.t 33) (.k (.bool true)) (.t 37), none⟩] [1, 38] [1])
  (.cond (.t 38) (.seq (.reg [⟨some 2, .mv (.k (.bool false)), none⟩] [2] [])
  (.ret)) (.skip)))
  (.seq (.seq (.reg [⟨some 3, .mv (.k (.int .i64 0)), none⟩] [1, 3] [1])
  (.block 0 (.loop spec_BoxOk.l0)))
  (.seq (.reg [⟨some 2, .mv (.k (.bool true)), none⟩] [2] [])
  (.ret))))
def spec_BoxOk.m : Fn := { np := 1, body := spec_BoxOk.b, res := [.tmp 2] }
def spec_BoxOk.k (M : Nat → Option Body) : Prop := M 88 = some (.code spec_BoxOk.m) ∧ spec_NameOk.k M ∧ spec_MailAt.k M ∧ spec_l01In.k M ∧ spec_l06In.k M ∧ spec_StampOk.k M ∧ spec_l06Sorted.k M ∧ spec_MailOk.k M
def impl_MailText.l0 : C := .seq (.reg [⟨some 20, .bin .lss (.t 19) (.t 18), none⟩] [1, 4, 17, 18, 19, 20] [1])
  (.seq (.cond (.t 20) (.skip) (.exit 0))
  (.seq (.block 1 (.seq (.reg [⟨some 21, .iaddr 3 (.t 17) (.t 19), none⟩,
    ⟨some 22, .load true 3 (.t 21), none⟩,
    ⟨some 6, .alloc [.int .i64 0, .int .i64 0, .int .i64 0], none⟩,
    ⟨none, .store 3 (.t 6) (.t 22), none⟩] [1, 4, 6, 17, 18, 19] [1, 6])
  (.reg [⟨some 23, .mv (.t 4), none⟩,
    ⟨some 24, .faddr 0 (.t 6), none⟩,
    ⟨some 25, .load false 1 (.t 24), none⟩,
    ⟨some 26, .faddr 1 (.t 6), none⟩,
    ⟨some 27, .faddr 0 (.t 26), none⟩,
    ⟨some 28, .load false 1 (.t 27), none⟩,
    ⟨some 29, .faddr 1 (.t 6), none⟩,
    ⟨some 30, .faddr 1 (.t 29), none⟩,
    ⟨some 31, .load false 1 (.t 30), none⟩,
    ⟨some 32, .bslice 1 3 [.int .i64 0] [(0, .t 25), (1, .t 28), (2, .t 31)], none⟩,
    ⟨some 33, .call 151 [.t 32] [] [], none⟩,
    ⟨some 34, .bin .add (.t 23) (.t 33), none⟩,
    ⟨some 4, .mv (.t 34), none⟩] [1, 4, 17, 18, 19] [1])))
  (.reg [⟨some 35, .bin .add (.t 19) (.k (.int .i64 1)), none⟩,
    ⟨some 19, .mv (.t 35), none⟩] [1, 4, 17, 18, 19] [1])))
def impl_MailText.b : C := .seq (.reg [⟨some 1, .box (.t 0), none⟩,
    ⟨some 2, .mv (.k (.str ⟨#[]⟩)), none⟩,
    ⟨some 3, .mv (.k (.bool false)), none⟩] [1] [1])
  (.seq (.seq (.reg [⟨some 7, .load true 4 (.t 1), none⟩,
    ⟨some 8, .call 166 [.t 7] [] [], none⟩,
    ⟨some 9, .not (.t 8), none⟩] [1, 9] [1])
  (.cond (.t 9) (.seq (.reg [⟨some 2, .mv (.k (.str ⟨#[]⟩)), none⟩,
    ⟨some 3, .mv (.k (.bool false)), none⟩] [2, 3] [])
  (.ret)) (.skip)))
  (.seq (.reg [⟨some 10, .faddr 0 (.t 1), none⟩,
    ⟨some 11, .load false 1 (.t 10), none⟩,
    ⟨some 12, .faddr 1 (.t 1), none⟩,
    ⟨some 13, .load false 1 (.t 12), none⟩,
    ⟨some 14, .bslice 1 2 [.int .i64 0] [(0, .t 11), (1, .t 13)], none⟩,
    ⟨some 15, .call 151 [.t 14] [] [], none⟩,
    ⟨some 4, .mv (.t 15), none⟩] [1, 4] [1])
  (.seq (.seq (.reg [⟨some 16, .faddr 2 (.t 1), none⟩,
    ⟨some 17, .load false 1 (.t 16), none⟩,
    ⟨some 18, .len (.t 17), none⟩,
    ⟨some 19, .mv (.k (.int .i64 0)), none⟩] [1, 4, 17, 18, 19] [1])
  (.block 0 (.loop impl_MailText.l0)))
  (.seq (.reg [⟨some 36, .mv (.t 4), none⟩,
    ⟨some 37, .faddr 3 (.t 1), none⟩,
    ⟨some 38, .load false 1 (.t 37), none⟩,
    ⟨some 39, .call 102 [.t 38] [] [], none⟩,
    ⟨some 40, .bin .add (.t 36) (.t 39), none⟩,
    ⟨some 2, .mv (.t 40), none⟩,
    ⟨some 3, .mv (.k (.bool true)), none⟩] [2, 3] [])
  (.ret)))))
def impl_MailText.m : Fn := { np := 1, body := impl_MailText.b, res := [.tmp 2, .tmp 3] }
def impl_MailText.k (M : Nat → Option Body) : Prop := M 213 = some (.code impl_MailText.m) ∧ impl_short.k M ∧ impl_vars.k M ∧ impl_MailOk.k M
def spec_MailText.l0 : C := .seq (.seq (.reg [⟨some 16, .mv (.t 5), none⟩,
    ⟨some 17, .faddr 2 (.t 1), none⟩,
    ⟨some 18, .load false 1 (.t 17), none⟩,
    ⟨some 19, .len (.t 18), none⟩,
    ⟨some 20, .bin .lss (.t 16) (.t 19), none⟩] [1, 4, 5, 20] [1])
  (.cond (.t 20) (.skip) (.exit 0)))
  (.seq (.block 1 (.regd [⟨some 23, .mv (.t 4), none⟩,
    ⟨some 24, .faddr 2 (.t 1), none⟩,
    ⟨some 25, .load false 1 (.t 24), none⟩,
    ⟨some 26, .mv (.t 5), none⟩,
    ⟨some 27, .iaddr 3 (.t 25) (.t 26), none⟩,
    ⟨some 28, .faddr 0 (.t 27), none⟩,
    ⟨some 29, .load false 1 (.t 28), none⟩,
    ⟨some 30, .call 99 [.t 29] [] [], none⟩,
    ⟨some 31, .bin .add (.t 23) (.t 30), none⟩,
    ⟨some 32, .faddr 2 (.t 1), none⟩,
    ⟨some 33, .load false 1 (.t 32), none⟩,
    ⟨some 34, .mv (.t 5), none⟩,
    ⟨some 35, .iaddr 3 (.t 33) (.t 34), none⟩,
    ⟨some 36, .faddr 1 (.t 35), none⟩,
    ⟨some 37, .faddr 0 (.t 36), none⟩,
    ⟨some 38, .load false 1 (.t 37), none⟩,
    ⟨some 39, .call 99 [.t 38] [] [], none⟩,
    ⟨some 40, .bin .add (.t 31) (.t 39), none⟩,
    ⟨some 41, .faddr 2 (.t 1), none⟩,
    ⟨some 42, .load false 1 (.t 41), none⟩,
    ⟨some 43, .mv (.t 5), none⟩,
    ⟨some 44, .iaddr 3 (.t 42) (.t 43), none⟩,
    ⟨some 45, .faddr 1 (.t 44), none⟩,
    ⟨some 46, .faddr 1 (.t 45), none⟩,
    ⟨some 47, .load false 1 (.t 46), none⟩,
    ⟨some 48, .call 99 [.t 47] [] [], none⟩,
    ⟨some 49, .bin .add (.t 40) (.t 48), none⟩,
    ⟨some 4, .mv (.t 49), none⟩] [[], [], [1], [], [1, 2, 3], [1, 2, 3, 4], [1, 2, 3, 4, 5], [1, 2, 3, 4, 5, 6], [0, 1, 2, 3, 4, 5, 6, 7], [], [9], [], [9, 10, 11], [9, 10, 11, 12], [9, 10, 11, 12, 13], [9, 10, 11, 12, 13, 14], [1, 2, 3, 4, 5, 6, 7, 9, 10, 11, 12, 13, 14, 15], [0, 1, 2, 3, 4, 5, 6, 7, 8, 9, 10, 11, 12, 13, 14, 15, 16], [], [18], [], [18, 19, 20], [18, 19, 20, 21], [18, 19, 20, 21, 22], [18, 19, 20, 21, 22, 23], [1, 2, 3, 4, 5, 6, 7, 9, 10, 11, 12, 13, 14, 15, 16, 18, 19, 20, 21, 22, 23, 24], [0, 1, 2, 3, 4, 5, 6, 7, 8, 9, 10, 11, 12, 13, 14, 15, 16, 17, 18, 19, 20, 21, 22, 23, 24, 25], [0, 1, 2, 3, 4, 5, 6, 7, 8, 9, 10, 11, 12, 13, 14, 15, 16, 17, 18, 19, 20, 21, 22, 23, 24, 25, 26]] [1, 4, 5] [1]))
  (.reg [⟨some 21, .mv (.t 5), none⟩,
    ⟨some 22, .bin .add (.t 21) (.k (.int .i64 1)), none⟩,
    ⟨some 5, .mv (.t 22), none⟩] [1, 4, 5] [1]))
def spec_MailText.b : C := .seq (.reg [⟨some 1, .box (.t 0), none⟩,
    ⟨some 2, .mv (.k (.str ⟨#[]⟩)), none⟩,
    ⟨some 3, .mv (.k (.bool false)), none⟩] [1] [1])
  (.seq (.seq (.reg [⟨some 6, .load true 4 (.t 1), none⟩,
    ⟨some 7, .call 187 [.t 6] [] [], none⟩,
    ⟨some 8, .not (.t 7), none⟩] [1, 8] [1])
  (.cond (.t 8) (.seq (.reg [⟨some 2, .mv (.k (.str ⟨#[]⟩)), none⟩,
    ⟨some 3, .mv (.k (.bool false)), none⟩] [2, 3] [])
  (.ret)) (.skip)))
  (.seq (.regd [⟨some 9, .faddr 0 (.t 1), none⟩,
    ⟨some 10, .load false 1 (.t 9), none⟩,
    ⟨some 11, .call 99 [.t 10] [] [], none⟩,
    ⟨some 12, .faddr 1 (.t 1), none⟩,
    ⟨some 13, .load false 1 (.t 12), none⟩,
    ⟨some 14, .call 99 [.t 13] [] [], none⟩,
    ⟨some 15, .bin .add (.t 11) (.t 14), none⟩,
    ⟨some 4, .mv (.t 15), none⟩] [[], [0], [0, 1], [], [3], [0, 1, 2, 3, 4], [0, 1, 2, 3, 4, 5], [0, 1, 2, 3, 4, 5, 6]] [1, 4] [1])
  (.seq (.seq (.reg [⟨some 5, .mv (.k (.int .i64 0)), none⟩] [1, 4, 5] [1])
  (.block 0 (.loop spec_MailText.l0)))
  (.seq (.regd [⟨some 50, .mv (.t 4), none⟩,
    ⟨some 51, .faddr 3 (.t 1), none⟩,
    ⟨some 52, .load false 1 (.t 51), none⟩,
    ⟨some 53, .slen (.t 52), none⟩,
    ⟨some 54, .call 99 [.t 53] [] [], none⟩,
    ⟨some 55, .bin .add (.t 50) (.t 54), none⟩,
    ⟨some 56, .faddr 3 (.t 1), none⟩,
    ⟨some 57, .load false 1 (.t 56), none⟩,
    ⟨some 58, .bin .add (.t 55) (.t 57), none⟩,
    ⟨some 2, .mv (.t 58), none⟩,
    ⟨some 3, .mv (.k (.bool true)), none⟩] [[], [], [1], [1, 2], [1, 2, 3], [0, 1, 2, 3, 4], [], [6], [0, 1, 2, 3, 4, 5, 6, 7], [0, 1, 2, 3, 4, 5, 6, 7, 8], [0, 1, 2, 3, 4, 5, 6, 7, 8, 9]] [2, 3] [])
  (.ret)))))
def spec_MailText.m : Fn := { np := 1, body := spec_MailText.b, res := [.tmp 2, .tmp 3] }
def spec_MailText.k (M : Nat → Option Body) : Prop := M 122 = some (.code spec_MailText.m) ∧ spec_l01Var.k M ∧ spec_MailOk.k M
def impl_boxText.l0 : C := .seq (.reg [⟨some 34, .bin .lss (.t 33) (.t 32), none⟩] [1, 3, 31, 32, 33, 34] [1])
  (.seq (.cond (.t 34) (.skip) (.exit 0))
  (.seq (.block 1 (.seq (.reg [⟨some 35, .iaddr 4 (.t 31) (.t 33), none⟩,
    ⟨some 36, .load true 4 (.t 35), none⟩,
    ⟨some 5, .alloc [.int .i64 0, .int .i64 0, .nils 3, .str ⟨#[]⟩], none⟩,
    ⟨none, .store 4 (.t 5) (.t 36), none⟩] [1, 3, 5, 31, 32, 33] [1, 5])
  (.seq (.reg [⟨some 38, .load true 4 (.t 5), none⟩,
    ⟨some 39, .call 213 [.t 38] [] [], none⟩,
    ⟨some 37, .mv (.t 39), none⟩,
    ⟨some 40, .ext 0 (.t 37), none⟩,
    ⟨some 41, .ext 1 (.t 37), none⟩,
    ⟨some 6, .mv (.t 40), none⟩,
    ⟨some 7, .mv (.t 41), none⟩] [1, 3, 6, 31, 32, 33] [1])
  (.reg [⟨some 42, .mv (.t 3), none⟩,
    ⟨some 43, .mv (.t 6), none⟩,
    ⟨some 44, .bin .add (.t 42) (.t 43), none⟩,
    ⟨some 3, .mv (.t 44), none⟩] [1, 3, 31, 32, 33] [1]))))
  (.reg [⟨some 45, .bin .add (.t 33) (.k (.int .i64 1)), none⟩,
    ⟨some 33, .mv (.t 45), none⟩] [1, 3, 31, 32, 33] [1])))
def impl_boxText.b : C := .seq (.reg [⟨some 1, .box (.t 0), none⟩,
    ⟨some 2, .mv (.k (.str ⟨#[]⟩)), none⟩] [1] [1])
  (.seq (.regd [⟨some 8, .faddr 0 (.t 1), none⟩,
    ⟨some 9, .load false 1 (.t 8), none⟩,
    ⟨some 10, .bslice 1 1 [.int .i64 0] [(0, .t 9)], none⟩,
    ⟨some 11, .call 151 [.t 10] [] [], none⟩,
    ⟨some 12, .faddr 1 (.t 1), none⟩,
    ⟨some 13, .load false 1 (.t 12), none⟩,
    ⟨some 14, .call 102 [.t 13] [] [], none⟩,
    ⟨some 15, .bin .add (.t 11) (.t 14), none⟩,
    ⟨some 16, .faddr 2 (.t 1), none⟩,
    ⟨some 17, .faddr 0 (.t 16), none⟩,
    ⟨some 18, .load false 1 (.t 17), none⟩,
    ⟨some 19, .faddr 2 (.t 1), none⟩,
    ⟨some 20, .faddr 1 (.t 19), none⟩,
    ⟨some 21, .load false 1 (.t 20), none⟩,
    ⟨some 22, .faddr 4 (.t 1), none⟩,
    ⟨some 23, .load false 1 (.t 22), none⟩,
    ⟨some 24, .faddr 5 (.t 1), none⟩,
    ⟨some 25, .load false 1 (.t 24), none⟩,
    ⟨some 26, .len (.t 25), none⟩,
    ⟨some 27, .bslice 1 4 [.int .i64 0] [(0, .t 18), (1, .t 21), (2, .t 23), (3, .t 26)], none⟩,
    ⟨some 28, .call 151 [.t 27] [] [], none⟩,
    ⟨some 29, .bin .add (.t 15) (.t 28), none⟩,
    ⟨some 3, .mv (.t 29), none⟩] [[], [0], [0, 1], [0, 1, 2], [], [4], [0, 1, 2, 3, 4, 5], [0, 1, 2, 3, 4, 5, 6], [], [8], [8, 9], [], [11], [11, 12], [], [14], [], [16], [16, 17], [8, 9, 10, 11, 12, 13, 14, 15, 16, 17, 18], [0, 1, 2, 3, 4, 5, 6, 8, 9, 10, 11, 12, 13, 14, 15, 16, 17, 18, 19], [0, 1, 2, 3, 4, 5, 6, 7, 8, 9, 10, 11, 12, 13, 14, 15, 16, 17, 18, 19, 20], [0, 1, 2, 3, 4, 5, 6, 7, 8, 9, 10, 11, 12, 13, 14, 15, 16, 17, 18, 19, 20, 21]] [1, 3] [1])
  (.seq (.seq (.reg [⟨some 30, .faddr 5 (.t 1), none⟩,
    ⟨some 31, .load false 1 (.t 30), none⟩,
    ⟨some 32, .len (.t 31), none⟩,
    ⟨some 33, .mv (.k (.int .i64 0)), none⟩] [1, 3, 31, 32, 33] [1])
  (.block 0 (.loop impl_boxText.l0)))
  (.seq (.regd [⟨some 46, .mv (.t 3), none⟩,
    ⟨some 47, .faddr 6 (.t 1), none⟩,
    ⟨some 48, .load false 1 (.t 47), none⟩,
    ⟨some 49, .len (.t 48), none⟩,
    ⟨some 50, .bslice 1 1 [.int .i64 0] [(0, .t 49)], none⟩,
    ⟨some 51, .call 151 [.t 50] [] [], none⟩,
    ⟨some 52, .bin .add (.t 46) (.t 51), none⟩,
    ⟨some 53, .faddr 6 (.t 1), none⟩,
    ⟨some 54, .load false 1 (.t 53), none⟩,
    ⟨some 55, .call 151 [.t 54] [] [], none⟩,
    ⟨some 56, .bin .add (.t 52) (.t 55), none⟩,
    ⟨some 2, .mv (.t 56), none⟩] [[], [], [1], [1, 2], [1, 2, 3], [1, 2, 3, 4], [0, 1, 2, 3, 4, 5], [], [7], [1, 2, 3, 4, 5, 7, 8], [0, 1, 2, 3, 4, 5, 6, 7, 8, 9], [0, 1, 2, 3, 4, 5, 6, 7, 8, 9, 10]] [2] [])
  (.ret))))
def impl_boxText.m : Fn := { np := 1, body := impl_boxText.b, res := [.tmp 2] }
def impl_boxText.k (M : Nat → Option Body) : Prop := M 123 = some (.code impl_boxText.m) ∧ impl_short.k M ∧ impl_vars.k M ∧ impl_MailText.k M
def impl_BoxText.b : C := .seq (.reg [⟨some 1, .box (.t 0), none⟩,
    ⟨some 2, .mv (.k (.str ⟨#[]⟩)), none⟩,
    ⟨some 3, .mv (.k (.bool false)), none⟩] [1] [1])
  (.seq (.seq (.reg [⟨some 4, .load true 7 (.t 1), none⟩,
    ⟨some 5, .call 74 [.t 4] [] [], none⟩,
    ⟨some 6, .not (.t 5), none⟩] [1, 6] [1])
  (.cond (.t 6) (.seq (.reg [⟨some 2, .mv (.k (.str ⟨#[]⟩)), none⟩,
    ⟨some 3, .mv (.k (.bool false)), none⟩] [2, 3] [])
  (.ret)) (.skip)))
  (.seq (.reg [⟨some 7, .load true 7 (.t 1), none⟩,
    ⟨some 8, .call 123 [.t 7] [] [], none⟩,
    ⟨some 2, .mv (.t 8), none⟩,
    ⟨some 3, .mv (.k (.bool true)), none⟩] [2, 3] [])
  (.ret)))
def impl_BoxText.m : Fn := { np := 1, body := impl_BoxText.b, res := [.tmp 2, .tmp 3] }
def impl_BoxText.k (M : Nat → Option Body) : Prop := M 35 = some (.code impl_BoxText.m) ∧ impl_BoxOk.k M ∧ impl_boxText.k M
def spec_BoxText.l0 : C := .seq (.seq (.reg [⟨some 42, .mv (.t 5), none⟩,
    ⟨some 43, .faddr 5 (.t 1), none⟩,
    ⟨some 44, .load false 1 (.t 43), none⟩,
    ⟨some 45, .len (.t 44), none⟩,
    ⟨some 46, .bin .lss (.t 42) (.t 45), none⟩] [1, 4, 5, 46] [1])
  (.cond (.t 46) (.skip) (.exit 0)))
  (.seq (.block 1 (.seq (.reg [⟨some 50, .faddr 5 (.t 1), none⟩,
    ⟨some 51, .load false 1 (.t 50), none⟩,
    ⟨some 52, .mv (.t 5), none⟩,
    ⟨some 53, .iaddr 4 (.t 51) (.t 52), none⟩,
    ⟨some 54, .load true 4 (.t 53), none⟩,
    ⟨some 55, .call 122 [.t 54] [] [], none⟩,
    ⟨some 49, .mv (.t 55), none⟩,
    ⟨some 56, .ext 0 (.t 49), none⟩,
    ⟨some 57, .ext 1 (.t 49), none⟩,
    ⟨some 6, .mv (.t 56), none⟩,
    ⟨some 7, .mv (.t 57), none⟩] [1, 4, 5, 6] [1])
  (.reg [⟨some 58, .mv (.t 4), none⟩,
    ⟨some 59, .mv (.t 6), none⟩,
    ⟨some 60, .bin .add (.t 58) (.t 59), none⟩,
    ⟨some 4, .mv (.t 60), none⟩] [1, 4, 5] [1])))
  (.reg [⟨some 47, .mv (.t 5), none⟩,
    ⟨some 48, .bin .add (.t 47) (.k (.int .i64 1)), none⟩,
    ⟨some 5, .mv (.t 48), none⟩] [1, 4, 5] [1]))
def spec_BoxText.l1 : C := .seq (.seq (.reg [⟨some 67, .mv (.t 8), none⟩,
    ⟨some 68, .faddr 6 (.t 1), none⟩,
    ⟨some 69, .load false 1 (.t 68), none⟩,
    ⟨some 70, .len (.t 69), none⟩,
    ⟨some 71, .bin .lss (.t 67) (.t 70), none⟩] [1, 4, 8, 71] [1])
  (.cond (.t 71) (.skip) (.exit 2)))
  (.seq (.block 3 (.reg [⟨some 74, .mv (.t 4), none⟩,
    ⟨some 75, .faddr 6 (.t 1), none⟩,
    ⟨some 76, .load false 1 (.t 75), none⟩,
    ⟨some 77, .mv (.t 8), none⟩,
    ⟨some 78, .iaddr 1 (.t 76) (.t 77), none⟩,
    ⟨some 79, .load false 1 (.t 78), none⟩,
    ⟨some 80, .call 99 [.t 79] [] [], none⟩,
    ⟨some 81, .bin .add (.t 74) (.t 80), none⟩,
    ⟨some 4, .mv (.t 81), none⟩] [1, 4, 8] [1]))
  (.reg [⟨some 72, .mv (.t 8), none⟩,
    ⟨some 73, .bin .add (.t 72) (.k (.int .i64 1)), none⟩,
    ⟨some 8, .mv (.t 73), none⟩] [1, 4, 8] [1]))
def spec_BoxText.b : C := .seq (.reg [⟨some 1, .box (.t 0), none⟩,
    ⟨some 2, .mv (.k (.str ⟨#[]⟩)), none⟩,
    ⟨some 3, .mv (.k (.bool false)), none⟩] [1] [1])
  (.seq (.seq (.reg [⟨some 9, .load true 7 (.t 1), none⟩,
    ⟨some 10, .call 88 [.t 9] [] [], none⟩,
    ⟨some 11, .not (.t 10), none⟩] [1, 11] [1])
  (.cond (.t 11) (.seq (.reg [⟨some 2, .mv (.k (.str ⟨#[]⟩)), none⟩,
    ⟨some 3, .mv (.k (.bool false)), none⟩] [2, 3] [])
  (.ret)) (.skip)))
  (.seq (.regd [⟨some 12, .faddr 0 (.t 1), none⟩,
    ⟨some 13, .load false 1 (.t 12), none⟩,
    ⟨some 14, .call 99 [.t 13] [] [], none⟩,
    ⟨some 15, .faddr 1 (.t 1), none⟩,
    ⟨some 16, .load false 1 (.t 15), none⟩,
    ⟨some 17, .slen (.t 16), none⟩,
    ⟨some 18, .call 99 [.t 17] [] [], none⟩,
    ⟨some 19, .bin .add (.t 14) (.t 18), none⟩,
    ⟨some 20, .faddr 1 (.t 1), none⟩,
    ⟨some 21, .load false 1 (.t 20), none⟩,
    ⟨some 22, .bin .add (.t 19) (.t 21), none⟩,
    ⟨some 23, .faddr 2 (.t 1), none⟩,
    ⟨some 24, .faddr 0 (.t 23), none⟩,
    ⟨some 25, .load false 1 (.t 24), none⟩,
    ⟨some 26, .call 99 [.t 25] [] [], none⟩,
    ⟨some 27, .bin .add (.t 22) (.t 26), none⟩,
    ⟨some 28, .faddr 2 (.t 1), none⟩,
    ⟨some 29, .faddr 1 (.t 28), none⟩,
    ⟨some 30, .load false 1 (.t 29), none⟩,
    ⟨some 31, .call 99 [.t 30] [] [], none⟩,
    ⟨some 32, .bin .add (.t 27) (.t 31), none⟩,
    ⟨some 33, .faddr 4 (.t 1), none⟩,
    ⟨some 34, .load false 1 (.t 33), none⟩,
    ⟨some 35, .call 99 [.t 34] [] [], none⟩,
    ⟨some 36, .bin .add (.t 32) (.t 35), none⟩,
    ⟨some 37, .faddr 5 (.t 1), none⟩,
    ⟨some 38, .load false 1 (.t 37), none⟩,
    ⟨some 39, .len (.t 38), none⟩,
    ⟨some 40, .call 99 [.t 39] [] [], none⟩,
    ⟨some 41, .bin .add (.t 36) (.t 40), none⟩,
    ⟨some 4, .mv (.t 41), none⟩] [[], [0], [0, 1], [], [3], [3, 4], [0, 1, 2, 3, 4, 5], [0, 1, 2, 3, 4, 5, 6], [], [8], [0, 1, 2, 3, 4, 5, 6, 7, 8, 9], [], [11], [11, 12], [0, 1, 2, 3, 4, 5, 6, 11, 12, 13], [0, 1, 2, 3, 4, 5, 6, 7, 8, 9, 10, 11, 12, 13, 14], [], [16], [16, 17], [0, 1, 2, 3, 4, 5, 6, 11, 12, 13, 14, 16, 17, 18], [0, 1, 2, 3, 4, 5, 6, 7, 8, 9, 10, 11, 12, 13, 14, 15, 16, 17, 18, 19], [], [21], [0, 1, 2, 3, 4, 5, 6, 11, 12, 13, 14, 16, 17, 18, 19, 21, 22], [0, 1, 2, 3, 4, 5, 6, 7, 8, 9, 10, 11, 12, 13, 14, 15, 16, 17, 18, 19, 20, 21, 22, 23], [], [25], [25, 26], [0, 1, 2, 3, 4, 5, 6, 11, 12, 13, 14, 16, 17, 18, 19, 21, 22, 23, 25, 26, 27], [0, 1, 2, 3, 4, 5, 6, 7, 8, 9, 10, 11, 12, 13, 14, 15, 16, 17, 18, 19, 20, 21, 22, 23, 24, 25, 26, 27, 28], [0, 1, 2, 3, 4, 5, 6, 7, 8, 9, 10, 11, 12, 13, 14, 15, 16, 17, 18, 19, 20, 21, 22, 23, 24, 25, 26, 27, 28, 29]] [1, 4] [1])
  (.seq (.seq (.reg [⟨some 5, .mv (.k (.int .i64 0)), none⟩] [1, 4, 5] [1])
  (.block 0 (.loop spec_BoxText.l0)))
  (.seq (.reg [⟨some 61, .mv (.t 4), none⟩,
    ⟨some 62, .faddr 6 (.t 1), none⟩,
    ⟨some 63, .load false 1 (.t 62), none⟩,
    ⟨some 64, .len (.t 63), none⟩,
    ⟨some 65, .call 99 [.t 64] [] [], none⟩,
    ⟨some 66, .bin .add (.t 61) (.t 65), none⟩,
    ⟨some 4, .mv (.t 66), none⟩] [1, 4] [1])
  (.seq (.seq (.reg [⟨some 8, .mv (.k (.int .i64 0)), none⟩] [1, 4, 8] [1])
  (.block 2 (.loop spec_BoxText.l1)))
  (.seq (.reg [⟨some 82, .mv (.t 4), none⟩,
    ⟨some 2, .mv (.t 82), none⟩,
    ⟨some 3, .mv (.k (.bool true)), none⟩] [2, 3] [])
  (.ret)))))))
def spec_BoxText.m : Fn := { np := 1, body := spec_BoxText.b, res := [.tmp 2, .tmp 3] }
def spec_BoxText.k (M : Nat → Option Body) : Prop := M 34 = some (.code spec_BoxText.m) ∧ spec_BoxOk.k M ∧ spec_l01Var.k M ∧ spec_MailText.k M
def laws_FnExactBoxText.b : C := .seq (.reg [⟨some 1, .box (.t 0), none⟩,
    ⟨some 2, .mv (.k (.bool false)), none⟩] [1] [1])
  (.seq (.reg [⟨some 3, .mv (.k (.int .i64 1048576)), none⟩] [1, 3] [1])
  (.seq (.reg [⟨some 9, .load true 7 (.t 1), none⟩,
    ⟨some 10, .mv (.t 3), none⟩,
    ⟨some 11, .call 17 [.t 9, .t 10] [] [], none⟩,
    ⟨some 3, .mv (.t 11), none⟩] [1, 3] [1])
  (.seq (.seq (.reg [⟨some 12, .mv (.t 3), none⟩,
    ⟨some 13, .bin .lss (.t 12) (.k (.int .i64 0)), none⟩] [1, 13] [1])
  (.cond (.t 13) (.seq (.reg [⟨some 2, .mv (.k (.bool true)), none⟩] [2] [])
  (.ret)) (.skip)))
  (.seq (.reg [⟨some 15, .load true 7 (.t 1), none⟩,
    ⟨some 16, .call 18 [.t 15] [] [], none⟩,
    ⟨some 17, .call 34 [.t 16] [] [], none⟩,
    ⟨some 14, .mv (.t 17), none⟩,
    ⟨some 18, .ext 0 (.t 14), none⟩,
    ⟨some 19, .ext 1 (.t 14), none⟩,
    ⟨some 4, .mv (.t 18), none⟩,
    ⟨some 5, .mv (.t 19), none⟩] [1, 4, 5] [1])
  (.seq (.reg [⟨some 20, .load true 7 (.t 1), none⟩,
    ⟨some 21, .call 18 [.t 20] [] [], none⟩,
    ⟨some 6, .alloc [.int .i64 0, .str ⟨#[]⟩, .int .i64 0, .int .i64 0, .int .i64 0, .nils 4, .nils 1], none⟩,
    ⟨none, .store 7 (.t 6) (.t 21), none⟩] [1, 4, 5, 6] [1, 6])
  (.seq (.reg [⟨some 23, .load true 7 (.t 6), none⟩,
    ⟨some 24, .call 35 [.t 23] [] [], none⟩,
    ⟨some 22, .mv (.t 24), none⟩,
    ⟨some 25, .ext 0 (.t 22), none⟩,
    ⟨some 26, .ext 1 (.t 22), none⟩,
    ⟨some 7, .mv (.t 25), none⟩,
    ⟨some 8, .mv (.t 26), none⟩] [1, 4, 5, 6, 7, 8] [1, 6])
  (.seq (.seq (.reg [⟨some 27, .mv (.t 7), none⟩,
    ⟨some 28, .mv (.t 4), none⟩,
    ⟨some 29, .bin .neq (.t 27) (.t 28), none⟩,
    ⟨some 30, .mv (.t 29), none⟩,
    ⟨some 31, .mv (.t 8), some (30, false)⟩,
    ⟨some 32, .mv (.t 5), some (30, false)⟩,
    ⟨some 33, .beq true (.t 31) (.t 32), some (30, false)⟩,
    ⟨some 34, .pick (.t 30) (.k (.bool true)) (.t 33), none⟩] [1, 6, 34] [1, 6])
  (.cond (.t 34) (.seq (.reg [⟨some 2, .mv (.k (.bool false)), none⟩] [2] [])
  (.ret)) (.skip)))
  (.seq (.seq (.regd [⟨some 35, .load true 7 (.t 6), none⟩,
    ⟨some 36, .load true 7 (.t 1), none⟩,
    ⟨some 37, .call 18 [.t 36] [] [], none⟩,
    ⟨some 38, .call 21 [.t 35, .t 37] [] [], none⟩,
    ⟨some 39, .not (.t 38), none⟩] [[], [], [1], [0, 1, 2], [0, 1, 2, 3]] [39] [])
  (.cond (.t 39) (.seq (.reg [⟨some 2, .mv (.k (.bool false)), none⟩] [2] [])
  (.ret)) (.skip)))
  (.seq (.reg [⟨some 2, .mv (.k (.bool true)), none⟩] [2] [])
  (.ret))))))))))
def laws_FnExactBoxText.m : Fn := { np := 1, body := laws_FnExactBoxText.b, res := [.tmp 2] }
def laws_FnExactBoxText.k (M : Nat → Option Body) : Prop := M 368 = some (.code laws_FnExactBoxText.m) ∧ laws_szBox.k M ∧ laws_toBox.k M ∧ laws_eqBox.k M ∧ spec_BoxText.k M ∧ impl_BoxText.k M
end Mx

/-
  What is right: stamps, registers, flags, mails, names, lists of numbers, boxes.
-/
namespace Mx
open Go
variable {M : Nat → Option Body}
def inR (a n b : Int) : Bool := decide (a ≤ n) && decide (n ≤ b)
theorem impl_within.inR (h : impl_within.k M) (n a b : Int) : run M 101 [.c (I n), .c (I a), .c (I b)] [] = some (.c (.bool (inR a n b)), []) := impl_within.says h n a b
theorem spec_l01In.inR (h : spec_l01In.k M) (n a b : Int) : run M 98 [.c (I n), .c (I a), .c (I b)] [] = some (.c (.bool (inR a n b)), []) := spec_l01In.says h n a b
def stampOk (t w : Int) : Bool := inR 0 t 100000 && inR 0 w 2
theorem impl_StampOk.says (h : impl_StampOk.k M) (t w : Int) : run M 164 [.a [I t, I w]] [] = some (.c (.bool (stampOk t w)), []) := by
  have h1 := impl_within.inR h.2 t 0 100000
  have h2 := impl_within.inR h.2 w 0 2
  refine run_code (b := impl_StampOk.m) h.1 ⟨0, ?_⟩
  cases c : inR 0 t 100000 <;> simp (maxSteps := 1000000) (disch := (first | omega | (simp; done) | (simp; omega))) [exB, impl_StampOk.m, impl_StampOk.b, List.range_succ, bs_get, List.take_of_length_le, setAt, str_add, h1, h2, c, stampOk]
theorem spec_StampOk.says (h : spec_StampOk.k M) (t w : Int) : run M 183 [.a [I t, I w]] [] = some (.c (.bool (stampOk t w)), []) := by
  have h1 := spec_l01In.inR h.2 t 0 100000
  have h2 := spec_l01In.inR h.2 w 0 2
  refine run_code (b := spec_StampOk.m) h.1 ⟨0, ?_⟩
  cases c : inR 0 t 100000 <;> simp (maxSteps := 1000000) (disch := (first | omega | (simp; done) | (simp; omega))) [exB, spec_StampOk.m, spec_StampOk.b, List.range_succ, bs_get, List.take_of_length_le, setAt, str_add, h1, h2, c, stampOk]
def regOk (r : Reg) : Bool := stampOk r.time r.who && inR 0 r.val 1000000000
theorem impl_RegOk.says (h : impl_RegOk.k M) (r : Reg) : run M 272 [.a (encReg r)] [] = some (.c (.bool (regOk r)), []) := by
  have h1 := impl_StampOk.says h.2.2 r.time r.who
  have h2 := impl_within.inR h.2.1 r.val 0 1000000000
  refine run_code (b := impl_RegOk.m) h.1 ⟨0, ?_⟩
  cases c : stampOk r.time r.who <;> simp (maxSteps := 1000000) (disch := (first | omega | (simp; done) | (simp; omega))) [exB, impl_RegOk.m, impl_RegOk.b, List.range_succ, bs_get, List.take_of_length_le, setAt, str_add, h1, h2, c, regOk]
theorem spec_RegOk.says (h : spec_RegOk.k M) (r : Reg) : run M 276 [.a (encReg r)] [] = some (.c (.bool (regOk r)), []) := by
  have h1 := spec_StampOk.says h.2.2 r.time r.who
  have h2 := spec_l01In.inR h.2.1 r.val 0 1000000000
  refine run_code (b := spec_RegOk.m) h.1 ⟨0, ?_⟩
  cases c : stampOk r.time r.who <;> simp (maxSteps := 1000000) (disch := (first | omega | (simp; done) | (simp; omega))) [exB, spec_RegOk.m, spec_RegOk.b, List.range_succ, bs_get, List.take_of_length_le, setAt, str_add, h1, h2, c, regOk]

/-! ## flags -/
def badFlag (l : List Reg) (i : Nat) : Bool := match l[i]? with
  | some r => !regOk r || decide (1 < r.val)
  | none => false
def flagsOk (l : List Reg) : Bool := (firstN (badFlag l) l.length).isNone && decide (l.length = 3)
theorem badFlag_at {l : List Reg} {i : Nat} (h : i < l.length) : badFlag l i = (!regOk l[i] || decide (1 < l[i].val)) := by simp [badFlag, h]
def ifS (l : List Reg) (i : Nat) (x : Nat) : St := { t := [(0, .c (regs l)), (5, .c (regs l)), (6, .c (I l.length)), (7, .c (I i))], o := [], n := x }
def ifE (l : List Reg) (x : Nat) : St := { t := [(0, .c (regs l)), (5, .c (regs l)), (6, .c (I l.length)), (7, .c (I l.length)), (8, .c (.bool false))], o := [], n := x }
theorem impl_FlagsOk.says (h : impl_FlagsOk.k M) (l : List Reg) (hl : l.length ≤ 1048576) : run M 235 [.c (regs l)] [] = some (.c (.bool (flagsOk l)), []) := by
  refine run_code (b := impl_FlagsOk.m) h.1 ⟨l.length + 1, ?_⟩
  obtain ⟨g, hr⟩ := early_loop (f := exC (run M) (l.length + 1) impl_FlagsOk.l0) l.length (badFlag l) (ifS l) 2 (.bool false) 0 (ifE l)
    (fun i hi x c => by
      have e5 : IntKind.i64.wrap ((i : Int) + 1) = (i : Int) + 1 := wrap_i64 (by omega) (by omega)
      have hm := impl_RegOk.says h.2 l[i]
      rw [badFlag_at hi] at c
      simp at c
      simp only [encReg, c.1] at hm
      have c2 : ¬ (1 : Int) < l[i].val := by omega
      simp (maxSteps := 1000000) (disch := (first | omega | (simp; done) | (simp; omega))) [impl_FlagsOk.l0, List.range_succ, bs_get, List.take_of_length_le, setAt, str_add, ifS, hi, hm, encReg, c, c2, e5])
    (fun i hi x c => by
      have hm := impl_RegOk.says h.2 l[i]
      rw [badFlag_at hi] at c
      cases c1 : regOk l[i]
      · simp only [encReg, c1] at hm
        simp (maxSteps := 1000000) (disch := (first | omega | (simp; done) | (simp; omega))) [impl_FlagsOk.l0, List.range_succ, bs_get, List.take_of_length_le, setAt, str_add, ifS, hi, hm, encReg, c1]
      · simp [c1] at c
        simp only [encReg, c1] at hm
        simp (maxSteps := 1000000) (disch := (first | omega | (simp; done) | (simp; omega))) [impl_FlagsOk.l0, List.range_succ, bs_get, List.take_of_length_le, setAt, str_add, ifS, hi, hm, encReg, c1, c])
    (fun x => by simp (maxSteps := 1000000) (disch := (first | omega | (simp; done) | (simp; omega))) [impl_FlagsOk.l0, List.range_succ, bs_get, List.take_of_length_le, setAt, str_add, ifS, ifE])
  cases q : firstN (badFlag l) l.length with
  | none =>
    simp [ifS, ifE, q, fin1] at hr
    simp (maxSteps := 1000000) (disch := (first | omega | (simp; done) | (simp; omega))) [exB, impl_FlagsOk.m, impl_FlagsOk.b, List.range_succ, bs_get, List.take_of_length_le, setAt, str_add, hr, flagsOk, q]
    omega
  | some k =>
    simp [ifS, q, fin1] at hr
    simp (maxSteps := 1000000) (disch := (first | omega | (simp; done) | (simp; omega))) [exB, impl_FlagsOk.m, impl_FlagsOk.b, List.range_succ, bs_get, List.take_of_length_le, setAt, str_add, hr, flagsOk, q]
def sfS (l : List Reg) (i : Nat) (x : Nat) : St := { t := [(0, .c (regs l)), (3, .c (I i))], o := [], n := x }
def sfE (l : List Reg) (x : Nat) : St := { t := [(0, .c (regs l)), (3, .c (I l.length)), (7, .c (.bool false))], o := [], n := x }
theorem spec_FlagsOk.says (h : spec_FlagsOk.k M) (l : List Reg) (hl : l.length ≤ 1048576) : run M 242 [.c (regs l)] [] = some (.c (.bool (flagsOk l)), []) := by
  refine run_code (b := spec_FlagsOk.m) h.1 ⟨l.length + 1, ?_⟩
  obtain ⟨g, hr⟩ := early_loop (f := exC (run M) (l.length + 1) spec_FlagsOk.l0) l.length (badFlag l) (sfS l) 2 (.bool false) 0 (sfE l)
    (fun i hi x c => by
      have e5 : IntKind.i64.wrap ((i : Int) + 1) = (i : Int) + 1 := wrap_i64 (by omega) (by omega)
      have hm := spec_RegOk.says h.2 l[i]
      rw [badFlag_at hi] at c
      simp at c
      simp only [encReg, c.1] at hm
      have c2 : ¬ (1 : Int) < l[i].val := by omega
      simp (maxSteps := 1000000) (disch := (first | omega | (simp; done) | (simp; omega))) [spec_FlagsOk.l0, List.range_succ, bs_get, List.take_of_length_le, setAt, str_add, sfS, hi, hm, encReg, c, c2, e5])
    (fun i hi x c => by
      have hm := spec_RegOk.says h.2 l[i]
      rw [badFlag_at hi] at c
      cases c1 : regOk l[i]
      · simp only [encReg, c1] at hm
        simp (maxSteps := 1000000) (disch := (first | omega | (simp; done) | (simp; omega))) [spec_FlagsOk.l0, List.range_succ, bs_get, List.take_of_length_le, setAt, str_add, sfS, hi, hm, encReg, c1]
      · simp [c1] at c
        simp only [encReg, c1] at hm
        simp (maxSteps := 1000000) (disch := (first | omega | (simp; done) | (simp; omega))) [spec_FlagsOk.l0, List.range_succ, bs_get, List.take_of_length_le, setAt, str_add, sfS, hi, hm, encReg, c1, c])
    (fun x => by simp (maxSteps := 1000000) (disch := (first | omega | (simp; done) | (simp; omega))) [spec_FlagsOk.l0, List.range_succ, bs_get, List.take_of_length_le, setAt, str_add, sfS, sfE])
  cases q : firstN (badFlag l) l.length with
  | none =>
    simp [sfS, sfE, q, fin1] at hr
    simp (maxSteps := 1000000) (disch := (first | omega | (simp; done) | (simp; omega))) [exB, spec_FlagsOk.m, spec_FlagsOk.b, List.range_succ, bs_get, List.take_of_length_le, setAt, str_add, hr, flagsOk, q]
    omega
  | some k =>
    simp [sfS, q, fin1] at hr
    simp (maxSteps := 1000000) (disch := (first | omega | (simp; done) | (simp; omega))) [exB, spec_FlagsOk.m, spec_FlagsOk.b, List.range_succ, bs_get, List.take_of_length_le, setAt, str_add, hr, flagsOk, q]

/-! ## mails -/
theorem impl_isGid.says (h : impl_isGid.k M) (n : Int) : run M 147 [.c (I n)] [] = some (.c (.bool (inR 1 n 9999)), []) := by
  have h1 := impl_within.inR h.2 n 1 9999
  refine run_code (b := impl_isGid.m) h.1 ⟨0, ?_⟩
  simp (maxSteps := 1000000) (disch := (first | omega | (simp; done) | (simp; omega))) [exB, impl_isGid.m, impl_isGid.b, List.range_succ, bs_get, List.take_of_length_le, setAt, str_add, h1]
def mailOk (m : Mail) : Bool := inR 1 m.gid 9999 && inR 1 m.uid 9999 && flagsOk m.flags && decide (m.text.length ≤ 60)
theorem impl_MailOk.says (h : impl_MailOk.k M) (m : Mail) (hl : m.flags.length ≤ 1048576) : run M 166 [.a (encMail m)] [] = some (.c (.bool (mailOk m)), []) := by
  have h1 := impl_isGid.says h.2.1 m.gid
  have h2 := impl_isGid.says h.2.1 m.uid
  have h3 := impl_FlagsOk.says h.2.2 m.flags hl
  refine run_code (b := impl_MailOk.m) h.1 ⟨0, ?_⟩
  cases c1 : inR 1 m.gid 9999
  · simp (maxSteps := 1000000) (disch := (first | omega | (simp; done) | (simp; omega))) [exB, impl_MailOk.m, impl_MailOk.b, List.range_succ, bs_get, List.take_of_length_le, setAt, str_add, h1, c1, mailOk]
  cases c2 : inR 1 m.uid 9999
  · simp (maxSteps := 1000000) (disch := (first | omega | (simp; done) | (simp; omega))) [exB, impl_MailOk.m, impl_MailOk.b, List.range_succ, bs_get, List.take_of_length_le, setAt, str_add, h1, h2, c1, c2, mailOk]
  cases c3 : flagsOk m.flags
  · simp (maxSteps := 1000000) (disch := (first | omega | (simp; done) | (simp; omega))) [exB, impl_MailOk.m, impl_MailOk.b, List.range_succ, bs_get, List.take_of_length_le, setAt, str_add, h1, h2, h3, c1, c2, c3, mailOk]
  simp (maxSteps := 1000000) (disch := (first | omega | (simp; done) | (simp; omega))) [exB, impl_MailOk.m, impl_MailOk.b, List.range_succ, bs_get, List.take_of_length_le, setAt, str_add, h1, h2, h3, c1, c2, c3, mailOk]
  omega
theorem spec_MailOk.says (h : spec_MailOk.k M) (m : Mail) (hl : m.flags.length ≤ 1048576) : run M 187 [.a (encMail m)] [] = some (.c (.bool (mailOk m)), []) := by
  have h1 := spec_l01In.inR h.2.1 m.gid 1 9999
  have h2 := spec_l01In.inR h.2.1 m.uid 1 9999
  have h3 := spec_FlagsOk.says h.2.2 m.flags hl
  refine run_code (b := spec_MailOk.m) h.1 ⟨0, ?_⟩
  cases c1 : inR 1 m.gid 9999
  · simp (maxSteps := 1000000) (disch := (first | omega | (simp; done) | (simp; omega))) [exB, spec_MailOk.m, spec_MailOk.b, List.range_succ, bs_get, List.take_of_length_le, setAt, str_add, h1, c1, mailOk]
  cases c2 : inR 1 m.uid 9999
  · simp (maxSteps := 1000000) (disch := (first | omega | (simp; done) | (simp; omega))) [exB, spec_MailOk.m, spec_MailOk.b, List.range_succ, bs_get, List.take_of_length_le, setAt, str_add, h1, h2, c1, c2, mailOk]
  cases c3 : flagsOk m.flags
  · simp (maxSteps := 1000000) (disch := (first | omega | (simp; done) | (simp; omega))) [exB, spec_MailOk.m, spec_MailOk.b, List.range_succ, bs_get, List.take_of_length_le, setAt, str_add, h1, h2, h3, c1, c2, c3, mailOk]
  simp (maxSteps := 1000000) (disch := (first | omega | (simp; done) | (simp; omega))) [exB, spec_MailOk.m, spec_MailOk.b, List.range_succ, bs_get, List.take_of_length_le, setAt, str_add, h1, h2, h3, c1, c2, c3, mailOk]
  omega

/-! ## names, lists of numbers -/
def badSign (l : List UInt8) (i : Nat) : Bool := match l[i]? with
  | some b => (decide ((b.toNat : Int) < 97) || decide (122 < (b.toNat : Int))) && (decide ((b.toNat : Int) < 48) || decide (57 < (b.toNat : Int)))
  | none => false
theorem badSign_at {l : List UInt8} {i : Nat} (h : i < l.length) :
    badSign l i = ((decide ((l[i].toNat : Int) < 97) || decide (122 < (l[i].toNat : Int))) && (decide ((l[i].toNat : Int) < 48) || decide (57 < (l[i].toNat : Int)))) := by simp [badSign, h]
def nameOk (l : List UInt8) : Bool := (firstN (badSign l) l.length).isNone && inR 1 l.length 12

def inSS (l : List UInt8) (i : Nat) (x : Nat) : St := { t := [(0, .c (S l)), (3, .c (I i))], o := [], n := x }
def inSE (l : List UInt8) (x : Nat) : St := { t := [(0, .c (S l)), (3, .c (I l.length)), (7, .c (.bool false))], o := [], n := x }
theorem impl_NameOk.says (h : impl_NameOk.k M) (l : List UInt8) (hl : l.length ≤ 4611686018427387904) : run M 89 [.c (S l)] [] = some (.c (.bool (nameOk l)), []) := by
  have h1 := impl_within.inR h.2 l.length 1 12
  refine run_code (b := impl_NameOk.m) h.1 ⟨l.length + 1, ?_⟩
  obtain ⟨g, hr⟩ := early_loop (f := exC (run M) (l.length + 1) impl_NameOk.l0) l.length (badSign l) (inSS l) 2 (.bool false) 0 (inSE l)
    (fun i hi x c => by
      have e5 : IntKind.i64.wrap ((i : Int) + 1) = (i : Int) + 1 := wrap_i64 (by omega) (by omega)
      rw [badSign_at hi] at c
      generalize hb : ((l[i].toNat : Nat) : Int) = b at c
      by_cases c1 : b < 97
      · by_cases c2 : b < 48
        · simp [c1, c2] at c
        · by_cases c3 : 57 < b
          · simp [c1, c2, c3] at c
          · simp (maxSteps := 1000000) (disch := (first | omega | (simp; done) | (simp; omega))) [impl_NameOk.l0, List.range_succ, bs_get, List.take_of_length_le, setAt, str_add, inSS, hi, e5, hb, c1, c2, c3]
      · by_cases c4 : 122 < b
        · have c3 : 57 < b := by omega
          simp [c1, c4, c3] at c
        · simp (maxSteps := 1000000) (disch := (first | omega | (simp; done) | (simp; omega))) [impl_NameOk.l0, List.range_succ, bs_get, List.take_of_length_le, setAt, str_add, inSS, hi, e5, hb, c1, c4])
    (fun i hi x c => by
      rw [badSign_at hi] at c
      generalize hb : ((l[i].toNat : Nat) : Int) = b at c
      by_cases c1 : b < 97
      · by_cases c2 : b < 48
        · simp (maxSteps := 1000000) (disch := (first | omega | (simp; done) | (simp; omega))) [impl_NameOk.l0, List.range_succ, bs_get, List.take_of_length_le, setAt, str_add, inSS, hi, hb, c1, c2]
        · by_cases c3 : 57 < b
          · simp (maxSteps := 1000000) (disch := (first | omega | (simp; done) | (simp; omega))) [impl_NameOk.l0, List.range_succ, bs_get, List.take_of_length_le, setAt, str_add, inSS, hi, hb, c1, c2, c3]
          · simp [c1, c2, c3] at c
      · by_cases c4 : 122 < b
        · have c2 : ¬ b < 48 := by omega
          have c3 : 57 < b := by omega
          simp (maxSteps := 1000000) (disch := (first | omega | (simp; done) | (simp; omega))) [impl_NameOk.l0, List.range_succ, bs_get, List.take_of_length_le, setAt, str_add, inSS, hi, hb, c1, c2, c3, c4]
        · simp [c1, c4] at c)
    (fun x => by simp (maxSteps := 1000000) (disch := (first | omega | (simp; done) | (simp; omega))) [impl_NameOk.l0, List.range_succ, bs_get, List.take_of_length_le, setAt, str_add, inSS, inSE])
  cases q : firstN (badSign l) l.length with
  | none =>
    simp [inSS, inSE, q, fin1] at hr
    simp (maxSteps := 1000000) (disch := (first | omega | (simp; done) | (simp; omega))) [exB, impl_NameOk.m, impl_NameOk.b, List.range_succ, bs_get, List.take_of_length_le, setAt, str_add, hr, nameOk, q, h1]
  | some k =>
    simp [inSS, q, fin1] at hr
    simp (maxSteps := 1000000) (disch := (first | omega | (simp; done) | (simp; omega))) [exB, impl_NameOk.m, impl_NameOk.b, List.range_succ, bs_get, List.take_of_length_le, setAt, str_add, hr, nameOk, q]

def snSS (l : List UInt8) (i : Nat) (x : Nat) : St := { t := [(0, .c (S l)), (3, .c (I i))], o := [], n := x }
def snSE (l : List UInt8) (x : Nat) : St := { t := [(0, .c (S l)), (3, .c (I l.length)), (7, .c (.bool false))], o := [], n := x }
theorem spec_NameOk.says (h : spec_NameOk.k M) (l : List UInt8) (hl : l.length ≤ 4611686018427387904) : run M 90 [.c (S l)] [] = some (.c (.bool (nameOk l)), []) := by
  have h1 := spec_l01In.inR h.2 l.length 1 12
  refine run_code (b := spec_NameOk.m) h.1 ⟨l.length + 1, ?_⟩
  obtain ⟨g, hr⟩ := early_loop (f := exC (run M) (l.length + 1) spec_NameOk.l0) l.length (badSign l) (snSS l) 2 (.bool false) 0 (snSE l)
    (fun i hi x c => by
      have e5 : IntKind.i64.wrap ((i : Int) + 1) = (i : Int) + 1 := wrap_i64 (by omega) (by omega)
      rw [badSign_at hi] at c
      generalize hb : ((l[i].toNat : Nat) : Int) = b at c
      by_cases c1 : b < 97
      · by_cases c2 : b < 48
        · simp [c1, c2] at c
        · by_cases c3 : 57 < b
          · simp [c1, c2, c3] at c
          · simp (maxSteps := 1000000) (disch := (first | omega | (simp; done) | (simp; omega))) [spec_NameOk.l0, List.range_succ, bs_get, List.take_of_length_le, setAt, str_add, snSS, hi, e5, hb, c1, c2, c3]
      · by_cases c4 : 122 < b
        · have c3 : 57 < b := by omega
          simp [c1, c4, c3] at c
        · simp (maxSteps := 1000000) (disch := (first | omega | (simp; done) | (simp; omega))) [spec_NameOk.l0, List.range_succ, bs_get, List.take_of_length_le, setAt, str_add, snSS, hi, e5, hb, c1, c4])
    (fun i hi x c => by
      rw [badSign_at hi] at c
      generalize hb : ((l[i].toNat : Nat) : Int) = b at c
      by_cases c1 : b < 97
      · by_cases c2 : b < 48
        · simp (maxSteps := 1000000) (disch := (first | omega | (simp; done) | (simp; omega))) [spec_NameOk.l0, List.range_succ, bs_get, List.take_of_length_le, setAt, str_add, snSS, hi, hb, c1, c2]
        · by_cases c3 : 57 < b
          · simp (maxSteps := 1000000) (disch := (first | omega | (simp; done) | (simp; omega))) [spec_NameOk.l0, List.range_succ, bs_get, List.take_of_length_le, setAt, str_add, snSS, hi, hb, c1, c2, c3]
          · simp [c1, c2, c3] at c
      · by_cases c4 : 122 < b
        · have c2 : ¬ b < 48 := by omega
          have c3 : 57 < b := by omega
          simp (maxSteps := 1000000) (disch := (first | omega | (simp; done) | (simp; omega))) [spec_NameOk.l0, List.range_succ, bs_get, List.take_of_length_le, setAt, str_add, snSS, hi, hb, c1, c2, c3, c4]
        · simp [c1, c4] at c)
    (fun x => by simp (maxSteps := 1000000) (disch := (first | omega | (simp; done) | (simp; omega))) [spec_NameOk.l0, List.range_succ, bs_get, List.take_of_length_le, setAt, str_add, snSS, snSE])
  cases q : firstN (badSign l) l.length with
  | none =>
    simp [snSS, snSE, q, fin1] at hr
    simp (maxSteps := 1000000) (disch := (first | omega | (simp; done) | (simp; omega))) [exB, spec_NameOk.m, spec_NameOk.b, List.range_succ, bs_get, List.take_of_length_le, setAt, str_add, hr, nameOk, q, h1]
  | some k =>
    simp [snSS, q, fin1] at hr
    simp (maxSteps := 1000000) (disch := (first | omega | (simp; done) | (simp; omega))) [exB, spec_NameOk.m, spec_NameOk.b, List.range_succ, bs_get, List.take_of_length_le, setAt, str_add, hr, nameOk, q]

def badGid (l : List Int) (i : Nat) : Bool := match l[i]? with
  | some g => !inR 1 g 9999 || (decide (0 < i) && match l[i - 1]? with | some f => decide (g ≤ f) | none => false)
  | none => false
theorem badGid_at {l : List Int} {i : Nat} (h : i < l.length) : badGid l i = (!inR 1 l[i] 9999 || (decide (0 < i) && decide (l[i] ≤ l[i - 1]))) := by
  simp [badGid, h, (show i - 1 < l.length by omega)]
def gidsOk (l : List Int) (most : Int) : Bool := (firstN (badGid l) l.length).isNone && decide ((l.length : Int) ≤ most)

def agS (l : List Int) (most : Int) (i : Nat) (x : Nat) : St := { t := [(0, .c (ints l)), (1, .c (I most)), (7, .c (ints l)), (8, .c (I l.length)), (9, .c (I i))], o := [], n := x }
def agE (l : List Int) (most : Int) (x : Nat) : St := { t := [(0, .c (ints l)), (1, .c (I most)), (7, .c (ints l)), (8, .c (I l.length)), (9, .c (I l.length)), (10, .c (.bool false))], o := [], n := x }
theorem impl_areGids.says (h : impl_areGids.k M) (l : List Int) (most : Int) (hl : l.length ≤ 4611686018427387904) : run M 165 [.c (ints l), .c (I most)] [] = some (.c (.bool (gidsOk l most)), []) := by
  refine run_code (b := impl_areGids.m) h.1 ⟨l.length + 1, ?_⟩
  obtain ⟨g, hr⟩ := early_loop (f := exC (run M) (l.length + 1) impl_areGids.l0) l.length (badGid l) (agS l most) 4 (.bool false) 0 (agE l most)
    (fun i hi x c => by
      have e5 : IntKind.i64.wrap ((i : Int) + 1) = (i : Int) + 1 := wrap_i64 (by omega) (by omega)
      have hm := impl_isGid.says h.2 l[i]
      rw [badGid_at hi] at c
      simp at c
      simp only [c.1] at hm
      by_cases c1 : 0 < i
      · have c2 : ¬ l[i] ≤ l[i - 1] := by have := c.2 c1; omega
        have e6 : IntKind.i64.wrap ((i : Int) - 1) = ((i - 1 : Nat) : Int) := by rw [wrap_i64 (by omega) (by omega)]; omega
        simp (maxSteps := 1000000) (disch := (first | omega | (simp; done) | (simp; omega))) [impl_areGids.l0, List.range_succ, bs_get, List.take_of_length_le, setAt, str_add, agS, hi, hm, c1, c2, e5, e6, (show i - 1 < l.length by omega)]
      · simp (maxSteps := 1000000) (disch := (first | omega | (simp; done) | (simp; omega))) [impl_areGids.l0, List.range_succ, bs_get, List.take_of_length_le, setAt, str_add, agS, hi, hm, c1, e5])
    (fun i hi x c => by
      have hm := impl_isGid.says h.2 l[i]
      rw [badGid_at hi] at c
      cases c1 : inR 1 l[i] 9999
      · simp only [c1] at hm
        simp (maxSteps := 1000000) (disch := (first | omega | (simp; done) | (simp; omega))) [impl_areGids.l0, List.range_succ, bs_get, List.take_of_length_le, setAt, str_add, agS, hi, hm]
      · simp [c1] at c
        obtain ⟨c2, c3⟩ := c
        simp only [c1] at hm
        have e6 : IntKind.i64.wrap ((i : Int) - 1) = ((i - 1 : Nat) : Int) := by rw [wrap_i64 (by omega) (by omega)]; omega
        simp (maxSteps := 1000000) (disch := (first | omega | (simp; done) | (simp; omega))) [impl_areGids.l0, List.range_succ, bs_get, List.take_of_length_le, setAt, str_add, agS, hi, hm, c2, c3, e6, (show i - 1 < l.length by omega)])
    (fun x => by simp (maxSteps := 1000000) (disch := (first | omega | (simp; done) | (simp; omega))) [impl_areGids.l0, List.range_succ, bs_get, List.take_of_length_le, setAt, str_add, agS, agE])
  cases q : firstN (badGid l) l.length with
  | none =>
    simp [agS, agE, q, fin1] at hr
    simp (maxSteps := 1000000) (disch := (first | omega | (simp; done) | (simp; omega))) [exB, impl_areGids.m, impl_areGids.b, List.range_succ, bs_get, List.take_of_length_le, setAt, str_add, hr, gidsOk, q]
  | some k =>
    simp [agS, q, fin1] at hr
    simp (maxSteps := 1000000) (disch := (first | omega | (simp; done) | (simp; omega))) [exB, impl_areGids.m, impl_areGids.b, List.range_succ, bs_get, List.take_of_length_le, setAt, str_add, hr, gidsOk, q]

def soS (l : List Int) (most : Int) (i : Nat) (x : Nat) : St := { t := [(0, .c (ints l)), (1, .c (I most)), (5, .c (I i))], o := [], n := x }
def soE (l : List Int) (most : Int) (x : Nat) : St := { t := [(0, .c (ints l)), (1, .c (I most)), (5, .c (I l.length)), (9, .c (.bool false))], o := [], n := x }
theorem spec_l06Sorted.says (h : spec_l06Sorted.k M) (l : List Int) (most : Int) (hl : l.length ≤ 4611686018427387904) : run M 186 [.c (ints l), .c (I most)] [] = some (.c (.bool (gidsOk l most)), []) := by
  refine run_code (b := spec_l06Sorted.m) h.1 ⟨l.length + 1, ?_⟩
  obtain ⟨g, hr⟩ := early_loop (f := exC (run M) (l.length + 1) spec_l06Sorted.l0) l.length (badGid l) (soS l most) 4 (.bool false) 0 (soE l most)
    (fun i hi x c => by
      have e5 : IntKind.i64.wrap ((i : Int) + 1) = (i : Int) + 1 := wrap_i64 (by omega) (by omega)
      have hm := spec_l01In.inR h.2 l[i] 1 9999
      rw [badGid_at hi] at c
      simp at c
      simp only [c.1] at hm
      by_cases c1 : 0 < i
      · have c2 : ¬ l[i] ≤ l[i - 1] := by have := c.2 c1; omega
        have e6 : IntKind.i64.wrap ((i : Int) - 1) = ((i - 1 : Nat) : Int) := by rw [wrap_i64 (by omega) (by omega)]; omega
        simp (maxSteps := 1000000) (disch := (first | omega | (simp; done) | (simp; omega))) [spec_l06Sorted.l0, List.range_succ, bs_get, List.take_of_length_le, setAt, str_add, soS, hi, hm, c1, c2, e5, e6, (show i - 1 < l.length by omega)]
      · simp (maxSteps := 1000000) (disch := (first | omega | (simp; done) | (simp; omega))) [spec_l06Sorted.l0, List.range_succ, bs_get, List.take_of_length_le, setAt, str_add, soS, hi, hm, c1, e5])
    (fun i hi x c => by
      have hm := spec_l01In.inR h.2 l[i] 1 9999
      rw [badGid_at hi] at c
      cases c1 : inR 1 l[i] 9999
      · simp only [c1] at hm
        simp (maxSteps := 1000000) (disch := (first | omega | (simp; done) | (simp; omega))) [spec_l06Sorted.l0, List.range_succ, bs_get, List.take_of_length_le, setAt, str_add, soS, hi, hm]
      · simp [c1] at c
        obtain ⟨c2, c3⟩ := c
        simp only [c1] at hm
        have e6 : IntKind.i64.wrap ((i : Int) - 1) = ((i - 1 : Nat) : Int) := by rw [wrap_i64 (by omega) (by omega)]; omega
        simp (maxSteps := 1000000) (disch := (first | omega | (simp; done) | (simp; omega))) [spec_l06Sorted.l0, List.range_succ, bs_get, List.take_of_length_le, setAt, str_add, soS, hi, hm, c2, c3, e6, (show i - 1 < l.length by omega)])
    (fun x => by simp (maxSteps := 1000000) (disch := (first | omega | (simp; done) | (simp; omega))) [spec_l06Sorted.l0, List.range_succ, bs_get, List.take_of_length_le, setAt, str_add, soS, soE])
  cases q : firstN (badGid l) l.length with
  | none =>
    simp [soS, soE, q, fin1] at hr
    simp (maxSteps := 1000000) (disch := (first | omega | (simp; done) | (simp; omega))) [exB, spec_l06Sorted.m, spec_l06Sorted.b, List.range_succ, bs_get, List.take_of_length_le, setAt, str_add, hr, gidsOk, q]
  | some k =>
    simp [soS, q, fin1] at hr
    simp (maxSteps := 1000000) (disch := (first | omega | (simp; done) | (simp; omega))) [exB, spec_l06Sorted.m, spec_l06Sorted.b, List.range_succ, bs_get, List.take_of_length_le, setAt, str_add, hr, gidsOk, q]

def isAt (l : List Int) (g : Int) (i : Nat) : Bool := match l[i]? with
  | some x => decide (x = g)
  | none => false
theorem isAt_at {l : List Int} {g : Int} {i : Nat} (h : i < l.length) : isAt l g i = decide (l[i] = g) := by simp [isAt, h]
theorem isAt_mem (l : List Int) (g : Int) : (firstN (isAt l g) l.length).isSome = decide (g ∈ l) := by
  rw [Bool.eq_iff_iff]
  simp only [decide_eq_true_eq]
  cases q : firstN (isAt l g) l.length with
  | none =>
    have := firstN_none q
    refine ⟨fun h => by simp at h, fun h => ?_⟩
    obtain ⟨i, hi, e⟩ := List.getElem_of_mem h
    have h1 := this i hi
    rw [isAt_at hi] at h1
    simp [e] at h1
  | some k =>
    obtain ⟨h1, h2, _⟩ := firstN_some q
    rw [isAt_at h1] at h2
    simp at h2
    refine ⟨fun _ => ?_, fun _ => rfl⟩
    rw [← h2]; exact List.getElem_mem h1
def siS (l : List Int) (g : Int) (i : Nat) (x : Nat) : St := { t := [(0, .c (ints l)), (1, .c (I g)), (5, .c (I i))], o := [], n := x }
def siE (l : List Int) (g : Int) (x : Nat) : St := { t := [(0, .c (ints l)), (1, .c (I g)), (5, .c (I l.length)), (9, .c (.bool false))], o := [], n := x }
theorem spec_l06In.says (h : spec_l06In.k M) (l : List Int) (g : Int) (hl : l.length ≤ 4611686018427387904) : run M 132 [.c (ints l), .c (I g)] [] = some (.c (.bool (decide (g ∈ l))), []) := by
  refine run_code (b := spec_l06In.m) h ⟨l.length + 1, ?_⟩
  obtain ⟨g', hr⟩ := early_loop (f := exC (run M) (l.length + 1) spec_l06In.l0) l.length (isAt l g) (siS l g) 4 (.bool true) 0 (siE l g)
    (fun i hi x c => by
      have e5 : IntKind.i64.wrap ((i : Int) + 1) = (i : Int) + 1 := wrap_i64 (by omega) (by omega)
      rw [isAt_at hi] at c
      simp at c
      simp (maxSteps := 1000000) (disch := (first | omega | (simp; done) | (simp; omega))) [spec_l06In.l0, List.range_succ, bs_get, List.take_of_length_le, setAt, str_add, siS, hi, e5, c])
    (fun i hi x c => by
      rw [isAt_at hi] at c
      simp at c
      simp (maxSteps := 1000000) (disch := (first | omega | (simp; done) | (simp; omega))) [spec_l06In.l0, List.range_succ, bs_get, List.take_of_length_le, setAt, str_add, siS, hi, c])
    (fun x => by simp (maxSteps := 1000000) (disch := (first | omega | (simp; done) | (simp; omega))) [spec_l06In.l0, List.range_succ, bs_get, List.take_of_length_le, setAt, str_add, siS, siE])
  have hm := isAt_mem l g
  rw [← hm]
  cases q : firstN (isAt l g) l.length with
  | none =>
    simp [siS, siE, q, fin1] at hr
    simp (maxSteps := 1000000) (disch := (first | omega | (simp; done) | (simp; omega))) [exB, spec_l06In.m, spec_l06In.b, List.range_succ, bs_get, List.take_of_length_le, setAt, str_add, hr]
  | some k =>
    simp [siS, q, fin1] at hr
    simp (maxSteps := 1000000) (disch := (first | omega | (simp; done) | (simp; omega))) [exB, spec_l06In.m, spec_l06In.b, List.range_succ, bs_get, List.take_of_length_le, setAt, str_add, hr]
def xiS (l : List Int) (g : Int) (i : Nat) (x : Nat) : St := { t := [(0, .c (ints l)), (1, .c (I g)), (7, .c (I l.length)), (8, .c (I i))], o := [], n := x }
theorem slices_Index_int_int.says (h : slices_Index_int_int.k M) (l : List Int) (g : Int) (hl : l.length ≤ 4611686018427387904) : run M 234 [.c (ints l), .c (I g)] [] = some (.c (I (intO (firstN (isAt l g) l.length))), []) := by
  refine run_code (b := slices_Index_int_int.m) h ⟨l.length + 1, ?_⟩
  obtain ⟨g', hr⟩ := first_loop (f := exC (run M) (l.length + 1) slices_Index_int_int.l0) l.length (isAt l g) (xiS l g) atFin atFin_ne
    (fun i hi x c => by
      have e5 : IntKind.i64.wrap ((i : Int) + 1) = (i : Int) + 1 := wrap_i64 (by omega) (by omega)
      rw [isAt_at hi] at c
      simp at c
      have c' : ¬ g = l[i] := fun q => c q.symm
      simp (maxSteps := 1000000) (disch := (first | omega | (simp; done) | (simp; omega))) [slices_Index_int_int.l0, List.range_succ, bs_get, List.take_of_length_le, setAt, str_add, xiS, hi, e5, c, c'])
    (fun i hi x c => by
      rw [isAt_at hi] at c
      simp at c
      simp (maxSteps := 1000000) (disch := (first | omega | (simp; done) | (simp; omega))) [slices_Index_int_int.l0, List.range_succ, bs_get, List.take_of_length_le, setAt, str_add, xiS, hi, c, atFin]
      exact ⟨⟨[], [], _⟩, rfl⟩)
    (fun x => by simp (maxSteps := 1000000) (disch := (first | omega | (simp; done) | (simp; omega))) [slices_Index_int_int.l0, List.range_succ, bs_get, List.take_of_length_le, setAt, str_add, xiS, atFin])
  cases q : firstN (isAt l g) l.length with
  | none =>
    simp [xiS, q, atFin] at hr
    simp (maxSteps := 1000000) (disch := (first | omega | (simp; done) | (simp; omega))) [exB, slices_Index_int_int.m, slices_Index_int_int.b, List.range_succ, bs_get, List.take_of_length_le, setAt, str_add, hr, intO]
  | some k =>
    simp [xiS, q, atFin] at hr
    simp (maxSteps := 1000000) (disch := (first | omega | (simp; done) | (simp; omega))) [exB, slices_Index_int_int.m, slices_Index_int_int.b, List.range_succ, bs_get, List.take_of_length_le, setAt, str_add, hr, intO]
theorem intO_pos (q : Option Nat) : decide (0 ≤ intO q) = q.isSome := by cases q <;> simp [intO]
theorem slices_Contains_int_int.says (h : slices_Contains_int_int.k M) (l : List Int) (g : Int) (hl : l.length ≤ 4611686018427387904) : run M 156 [.c (ints l), .c (I g)] [] = some (.c (.bool (decide (g ∈ l))), []) := by
  have h1 := slices_Index_int_int.says h.2 l g hl
  refine run_code (b := slices_Contains_int_int.m) h.1 ⟨0, ?_⟩
  rw [← isAt_mem l g, ← intO_pos]
  simp (maxSteps := 1000000) (disch := (first | omega | (simp; done) | (simp; omega))) [exB, slices_Contains_int_int.m, slices_Contains_int_int.b, List.range_succ, bs_get, List.take_of_length_le, setAt, str_add, h1]
end Mx

/-
  What is right: boxes.
-/
namespace Mx
open Go
variable {M : Nat → Option Body}
def badMail (b : Box) (i : Nat) : Bool := match b.mails[i]? with
  | some m => !mailOk m || decide (b.next ≤ m.uid) || (decide (0 < i) && match b.mails[i - 1]? with | some p => decide (m.uid ≤ p.uid) | none => false) || !decide (intO (mailO b.mails m.gid) = (i : Int)) || decide (m.gid ∈ b.gone)
  | none => false
theorem badMail_at {b : Box} {i : Nat} (h : i < b.mails.length) : badMail b i = (!mailOk b.mails[i] || decide (b.next ≤ b.mails[i].uid) || (decide (0 < i) && decide (b.mails[i].uid ≤ b.mails[i - 1].uid)) ||
    !decide (intO (mailO b.mails b.mails[i].gid) = (i : Int)) || decide (b.mails[i].gid ∈ b.gone)) := by
  simp [badMail, h, (show i - 1 < b.mails.length by omega)]
def boxOk (b : Box) : Bool := inR 1 b.gid 9999 && nameOk b.name && stampOk b.time b.who && inR 1 b.next 10000 && decide (b.mails.length ≤ 10) && gidsOk b.gone 40 && (firstN (badMail b) b.mails.length).isNone

def ibS (b : Box) (i : Nat) (x : Nat × Nat) : St := { t := [(1, .c (.ptr 1 x.1 0 0)), (40, .c (mails b.mails)), (41, .c (I b.mails.length)), (42, .c (I i))], o := [(1, ⟨x.1, 7, true, true, [encBox b]⟩)], n := x.2 }
def ibSE (b : Box) (x : Nat × Nat) : St := { t := [(1, .c (.ptr 1 x.1 0 0)), (40, .c (mails b.mails)), (41, .c (I b.mails.length)), (42, .c (I b.mails.length)), (43, .c (.bool false))], o := [(1, ⟨x.1, 7, true, true, [encBox b]⟩)], n := x.2 }
theorem impl_BoxOk.good (hat : impl_MailAt.k M) (hin : slices_Contains_int_int.k M) (hmo : impl_MailOk.k M) (b : Box) (hml : b.mails.length ≤ 1048576) (hgl : b.gone.length ≤ 4611686018427387904) (hw : ∀ m ∈ b.mails, m.flags.length ≤ 1048576)
    (i : Nat) (hi : i < b.mails.length) (x : Nat × Nat) (c : badMail b i = false) : ∃ y, exC (run M) (b.mails.length + 1) impl_BoxOk.l0 (ibS b i x) = some (.normal, ibS b (i + 1) y) := by
      obtain ⟨v, x⟩ := x
      simp only [Prod.exists]
      have hm := impl_MailOk.says hmo b.mails[i] (hw _ (List.getElem_mem hi))
      have ha := impl_MailAt.says hat b b.mails[i].gid hml
      have hg := slices_Contains_int_int.says hin b.gone b.mails[i].gid hgl
      simp only [encMail, encBox] at hm ha hg
      rw [badMail_at hi] at c
      simp at c
      obtain ⟨⟨⟨⟨c1, c2⟩, c3⟩, c4⟩, c5⟩ := c
      have e5 : IntKind.i64.wrap ((i : Int) + 1) = (i : Int) + 1 := wrap_i64 (by omega) (by omega)
      rw [c1] at hm
      rw [c4] at ha
      rw [decide_eq_false c5] at hg
      have c2' : ¬ b.next ≤ b.mails[i].uid := by omega
      by_cases c6 : 0 < i
      · have e6 : IntKind.i64.wrap ((i : Int) - 1) = ((i - 1 : Nat) : Int) := by rw [wrap_i64 (by omega) (by omega)]; omega
        have c3' : ¬ b.mails[i].uid ≤ b.mails[i - 1].uid := by have := c3 c6; omega
        simp (maxSteps := 1000000) [impl_BoxOk.l0, List.range_succ, bs_get, setAt, ibS, encMail, hi, hm, ha, hg, c2', c6, c3', e5, e6, (show i - 1 < b.mails.length by omega)]
      · simp (maxSteps := 1000000) [impl_BoxOk.l0, List.range_succ, bs_get, setAt, ibS, encMail, hi, hm, ha, hg, c2', c6, e5]
theorem impl_BoxOk.bad (hat : impl_MailAt.k M) (hin : slices_Contains_int_int.k M) (hmo : impl_MailOk.k M) (b : Box) (hml : b.mails.length ≤ 1048576) (hgl : b.gone.length ≤ 4611686018427387904) (hw : ∀ m ∈ b.mails, m.flags.length ≤ 1048576)
    (i : Nat) (hi : i < b.mails.length) (x : Nat × Nat) (c : badMail b i = true) : ∃ k, exC (run M) (b.mails.length + 1) impl_BoxOk.l0 (ibS b i x) = some (.ret, { t := [(2, .c (.bool false))], o := [], n := k }) := by
      obtain ⟨v, x⟩ := x
      have hm := impl_MailOk.says hmo b.mails[i] (hw _ (List.getElem_mem hi))
      have ha := impl_MailAt.says hat b b.mails[i].gid hml
      have hg := slices_Contains_int_int.says hin b.gone b.mails[i].gid hgl
      simp only [encMail, encBox] at hm ha hg
      rw [badMail_at hi] at c
      cases c1 : mailOk b.mails[i]
      · rw [c1] at hm
        simp (maxSteps := 1000000) [impl_BoxOk.l0, List.range_succ, bs_get, setAt, ibS, encMail, hi, hm]
      rw [c1] at hm
      by_cases c2 : b.next ≤ b.mails[i].uid
      · simp (maxSteps := 1000000) [impl_BoxOk.l0, List.range_succ, bs_get, setAt, ibS, encMail, hi, hm, c2]
      have c2' : ¬ b.next ≤ b.mails[i].uid := c2
      by_cases c6 : 0 < i
      · have e6 : IntKind.i64.wrap ((i : Int) - 1) = ((i - 1 : Nat) : Int) := by rw [wrap_i64 (by omega) (by omega)]; omega
        by_cases c3 : b.mails[i].uid ≤ b.mails[i - 1].uid
        · simp (maxSteps := 1000000) [impl_BoxOk.l0, List.range_succ, bs_get, setAt, ibS, encMail, hi, hm, c2, c6, c3, e6, (show i - 1 < b.mails.length by omega)]
        by_cases c4 : intO (mailO b.mails b.mails[i].gid) = (i : Int)
        rotate_left
        · simp (maxSteps := 1000000) [impl_BoxOk.l0, List.range_succ, bs_get, setAt, ibS, encMail, hi, hm, c2, c6, c3, e6, (show i - 1 < b.mails.length by omega), ha, c4]
        rw [c4] at ha
        by_cases c5 : b.mails[i].gid ∈ b.gone
        rotate_left
        · simp [c1, c2, c3, c4, c5] at c
        rw [decide_eq_true c5] at hg
        simp (maxSteps := 1000000) [impl_BoxOk.l0, List.range_succ, bs_get, setAt, ibS, encMail, hi, hm, c2, c6, c3, e6, (show i - 1 < b.mails.length by omega), ha, hg]
      · have c3 := c6
        by_cases c4 : intO (mailO b.mails b.mails[i].gid) = (i : Int)
        rotate_left
        · simp (maxSteps := 1000000) [impl_BoxOk.l0, List.range_succ, bs_get, setAt, ibS, encMail, hi, hm, c2, c6, ha, c4]
        rw [c4] at ha
        by_cases c5 : b.mails[i].gid ∈ b.gone
        rotate_left
        · simp [c1, c2, c3, c4, c5] at c
        rw [decide_eq_true c5] at hg
        simp (maxSteps := 1000000) [impl_BoxOk.l0, List.range_succ, bs_get, setAt, ibS, encMail, hi, hm, c2, c6, ha, hg]
theorem impl_BoxOk.says (h : impl_BoxOk.k M) (b : Box) (hml : b.mails.length ≤ 1048576) (hgl : b.gone.length ≤ 4611686018427387904) (hnl : b.name.length ≤ 4611686018427387904) (hw : ∀ m ∈ b.mails, m.flags.length ≤ 1048576) :
    run M 74 [.a (encBox b)] [] = some (.c (.bool (boxOk b)), []) := by
  obtain ⟨h0, hat, hno, hwi, hig, hin, hso, hgo, hmo⟩ := h
  have h1 := impl_isGid.says hig b.gid
  have h2 := impl_NameOk.says hno b.name hnl
  have h3 := impl_StampOk.says hso b.time b.who
  have h4 := impl_within.inR hwi b.next 1 10000
  have h5 := impl_areGids.says hgo b.gone 40 hgl
  refine run_code (b := impl_BoxOk.m) h0 ⟨b.mails.length + 1, ?_⟩
  obtain ⟨g, hr⟩ := early_loop (f := exC (run M) (b.mails.length + 1) impl_BoxOk.l0) b.mails.length (badMail b) (ibS b) 2 (.bool false) 0 (ibSE b)
    (fun i hi x c => impl_BoxOk.good hat hin hmo b hml hgl hw i hi x c)
    (fun i hi x c => impl_BoxOk.bad hat hin hmo b hml hgl hw i hi x c)
    (fun x => by
      obtain ⟨v, x⟩ := x
      simp only [Prod.exists]
      simp (maxSteps := 1000000) [impl_BoxOk.l0, List.range_succ, bs_get, setAt, ibS, ibSE])
  cases c1 : inR 1 b.gid 9999
  · simp (maxSteps := 1000000) [exB, impl_BoxOk.m, impl_BoxOk.b, List.range_succ, bs_get, setAt, h1, c1, boxOk]
  cases c2 : nameOk b.name
  · simp (maxSteps := 1000000) [exB, impl_BoxOk.m, impl_BoxOk.b, List.range_succ, bs_get, setAt, h1, h2, c1, c2, boxOk]
  cases c3 : stampOk b.time b.who
  · simp (maxSteps := 1000000) [exB, impl_BoxOk.m, impl_BoxOk.b, List.range_succ, bs_get, setAt, h1, h2, h3, c1, c2, c3, boxOk]
  cases c4 : inR 1 b.next 10000
  · simp (maxSteps := 1000000) [exB, impl_BoxOk.m, impl_BoxOk.b, List.range_succ, bs_get, setAt, h1, h2, h3, h4, c1, c2, c3, c4, boxOk]
  by_cases c5 : 10 < b.mails.length
  · have c5' : ¬ b.mails.length ≤ 10 := by omega
    have ci : (10 : Int) < b.mails.length := by omega
    simp (maxSteps := 1000000) [exB, impl_BoxOk.m, impl_BoxOk.b, List.range_succ, bs_get, setAt, h1, h2, h3, h4, c1, c2, c3, c4, c5, c5', ci, boxOk]
  have c5' : b.mails.length ≤ 10 := by omega
  have ci : ¬ (10 : Int) < b.mails.length := by omega
  cases c6 : gidsOk b.gone 40
  · simp (maxSteps := 1000000) [exB, impl_BoxOk.m, impl_BoxOk.b, List.range_succ, bs_get, setAt, h1, h2, h3, h4, h5, c1, c2, c3, c4, c5, ci, c6, boxOk]
  cases q : firstN (badMail b) b.mails.length with
  | none =>
    simp [ibS, ibSE, q, fin1] at hr
    simp (maxSteps := 1000000) [exB, impl_BoxOk.m, impl_BoxOk.b, List.range_succ, bs_get, setAt, h1, h2, h3, h4, h5, c1, c2, c3, c4, c5, c5', ci, c6, hr, boxOk, q]
  | some k =>
    simp [ibS, q, fin1] at hr
    simp (maxSteps := 1000000) [exB, impl_BoxOk.m, impl_BoxOk.b, List.range_succ, bs_get, setAt, h1, h2, h3, h4, h5, c1, c2, c3, c4, c5, c5', ci, c6, hr, boxOk, q]

def sbxS (b : Box) (i : Nat) (x : Nat × Nat) : St := { t := [(1, .c (.ptr 1 x.1 0 0)), (3, .c (I i))], o := [(1, ⟨x.1, 7, true, true, [encBox b]⟩)], n := x.2 }
def sbxSE (b : Box) (x : Nat × Nat) : St := { t := [(1, .c (.ptr 1 x.1 0 0)), (3, .c (I b.mails.length)), (43, .c (.bool false))], o := [(1, ⟨x.1, 7, true, true, [encBox b]⟩)], n := x.2 }
theorem spec_BoxOk.good (hat : spec_MailAt.k M) (hin : spec_l06In.k M) (hmo : spec_MailOk.k M) (b : Box) (hml : b.mails.length ≤ 1048576) (hgl : b.gone.length ≤ 4611686018427387904) (hw : ∀ m ∈ b.mails, m.flags.length ≤ 1048576)
    (i : Nat) (hi : i < b.mails.length) (x : Nat × Nat) (c : badMail b i = false) : ∃ y, exC (run M) (b.mails.length + 1) spec_BoxOk.l0 (sbxS b i x) = some (.normal, sbxS b (i + 1) y) := by
      obtain ⟨v, x⟩ := x
      simp only [Prod.exists]
      have hm := spec_MailOk.says hmo b.mails[i] (hw _ (List.getElem_mem hi))
      have ha := spec_MailAt.says hat b b.mails[i].gid hml
      have hg := spec_l06In.says hin b.gone b.mails[i].gid hgl
      simp only [encMail, encBox] at hm ha hg
      rw [badMail_at hi] at c
      simp at c
      obtain ⟨⟨⟨⟨c1, c2⟩, c3⟩, c4⟩, c5⟩ := c
      have e5 : IntKind.i64.wrap ((i : Int) + 1) = (i : Int) + 1 := wrap_i64 (by omega) (by omega)
      rw [c1] at hm
      rw [c4] at ha
      rw [decide_eq_false c5] at hg
      have c2' : ¬ b.next ≤ b.mails[i].uid := by omega
      by_cases c6 : 0 < i
      · have e6 : IntKind.i64.wrap ((i : Int) - 1) = ((i - 1 : Nat) : Int) := by rw [wrap_i64 (by omega) (by omega)]; omega
        have c3' : ¬ b.mails[i].uid ≤ b.mails[i - 1].uid := by have := c3 c6; omega
        simp (maxSteps := 1000000) [spec_BoxOk.l0, List.range_succ, bs_get, setAt, sbxS, encMail, hi, hm, ha, hg, c2', c6, c3', e5, e6, (show i - 1 < b.mails.length by omega)]
      · simp (maxSteps := 1000000) [spec_BoxOk.l0, List.range_succ, bs_get, setAt, sbxS, encMail, hi, hm, ha, hg, c2', c6, e5]
theorem spec_BoxOk.bad (hat : spec_MailAt.k M) (hin : spec_l06In.k M) (hmo : spec_MailOk.k M) (b : Box) (hml : b.mails.length ≤ 1048576) (hgl : b.gone.length ≤ 4611686018427387904) (hw : ∀ m ∈ b.mails, m.flags.length ≤ 1048576)
    (i : Nat) (hi : i < b.mails.length) (x : Nat × Nat) (c : badMail b i = true) : ∃ k, exC (run M) (b.mails.length + 1) spec_BoxOk.l0 (sbxS b i x) = some (.ret, { t := [(2, .c (.bool false))], o := [], n := k }) := by
      obtain ⟨v, x⟩ := x
      have hm := spec_MailOk.says hmo b.mails[i] (hw _ (List.getElem_mem hi))
      have ha := spec_MailAt.says hat b b.mails[i].gid hml
      have hg := spec_l06In.says hin b.gone b.mails[i].gid hgl
      simp only [encMail, encBox] at hm ha hg
      rw [badMail_at hi] at c
      cases c1 : mailOk b.mails[i]
      · rw [c1] at hm
        simp (maxSteps := 1000000) [spec_BoxOk.l0, List.range_succ, bs_get, setAt, sbxS, encMail, hi, hm]
      rw [c1] at hm
      by_cases c2 : b.next ≤ b.mails[i].uid
      · simp (maxSteps := 1000000) [spec_BoxOk.l0, List.range_succ, bs_get, setAt, sbxS, encMail, hi, hm, c2]
      have c2' : ¬ b.next ≤ b.mails[i].uid := c2
      by_cases c6 : 0 < i
      · have e6 : IntKind.i64.wrap ((i : Int) - 1) = ((i - 1 : Nat) : Int) := by rw [wrap_i64 (by omega) (by omega)]; omega
        by_cases c3 : b.mails[i].uid ≤ b.mails[i - 1].uid
        · simp (maxSteps := 1000000) [spec_BoxOk.l0, List.range_succ, bs_get, setAt, sbxS, encMail, hi, hm, c2, c6, c3, e6, (show i - 1 < b.mails.length by omega)]
        by_cases c5 : b.mails[i].gid ∈ b.gone
        · rw [decide_eq_true c5] at hg
          simp (maxSteps := 1000000) [spec_BoxOk.l0, List.range_succ, bs_get, setAt, sbxS, encMail, hi, hm, c2, c6, c3, e6, (show i - 1 < b.mails.length by omega), hg]
        rw [decide_eq_false c5] at hg
        by_cases c4 : intO (mailO b.mails b.mails[i].gid) = (i : Int)
        · simp [c1, c2, c3, c4, c5] at c
        simp (maxSteps := 1000000) [spec_BoxOk.l0, List.range_succ, bs_get, setAt, sbxS, encMail, hi, hm, c2, c6, c3, e6, (show i - 1 < b.mails.length by omega), ha, hg, c4]
      · have c3 := c6
        by_cases c5 : b.mails[i].gid ∈ b.gone
        · rw [decide_eq_true c5] at hg
          simp (maxSteps := 1000000) [spec_BoxOk.l0, List.range_succ, bs_get, setAt, sbxS, encMail, hi, hm, c2, c6, hg]
        rw [decide_eq_false c5] at hg
        by_cases c4 : intO (mailO b.mails b.mails[i].gid) = (i : Int)
        · simp [c1, c2, c3, c4, c5] at c
        simp (maxSteps := 1000000) [spec_BoxOk.l0, List.range_succ, bs_get, setAt, sbxS, encMail, hi, hm, c2, c6, ha, hg, c4]
theorem spec_BoxOk.says (h : spec_BoxOk.k M) (b : Box) (hml : b.mails.length ≤ 1048576) (hgl : b.gone.length ≤ 4611686018427387904) (hnl : b.name.length ≤ 4611686018427387904) (hw : ∀ m ∈ b.mails, m.flags.length ≤ 1048576) :
    run M 88 [.a (encBox b)] [] = some (.c (.bool (boxOk b)), []) := by
  obtain ⟨h0, hno, hat, hwi, hin, hso, hgo, hmo⟩ := h
  have h1 := spec_l01In.inR hwi b.gid 1 9999
  have h2 := spec_NameOk.says hno b.name hnl
  have h3 := spec_StampOk.says hso b.time b.who
  have h4 := spec_l01In.inR hwi b.next 1 10000
  have h5 := spec_l06Sorted.says hgo b.gone 40 hgl
  refine run_code (b := spec_BoxOk.m) h0 ⟨b.mails.length + 1, ?_⟩
  obtain ⟨g, hr⟩ := early_loop (f := exC (run M) (b.mails.length + 1) spec_BoxOk.l0) b.mails.length (badMail b) (sbxS b) 2 (.bool false) 0 (sbxSE b)
    (fun i hi x c => spec_BoxOk.good hat hin hmo b hml hgl hw i hi x c)
    (fun i hi x c => spec_BoxOk.bad hat hin hmo b hml hgl hw i hi x c)
    (fun x => by
      obtain ⟨v, x⟩ := x
      simp only [Prod.exists]
      simp (maxSteps := 1000000) [spec_BoxOk.l0, List.range_succ, bs_get, setAt, sbxS, sbxSE])
  cases c1 : inR 1 b.gid 9999
  · simp (maxSteps := 1000000) [exB, spec_BoxOk.m, spec_BoxOk.b, List.range_succ, bs_get, setAt, h1, c1, boxOk]
  cases c2 : nameOk b.name
  · simp (maxSteps := 1000000) [exB, spec_BoxOk.m, spec_BoxOk.b, List.range_succ, bs_get, setAt, h1, h2, c1, c2, boxOk]
  cases c3 : stampOk b.time b.who
  · simp (maxSteps := 1000000) [exB, spec_BoxOk.m, spec_BoxOk.b, List.range_succ, bs_get, setAt, h1, h2, h3, c1, c2, c3, boxOk]
  cases c4 : inR 1 b.next 10000
  · simp (maxSteps := 1000000) [exB, spec_BoxOk.m, spec_BoxOk.b, List.range_succ, bs_get, setAt, h1, h2, h3, h4, c1, c2, c3, c4, boxOk]
  by_cases c5 : 10 < b.mails.length
  · have c5' : ¬ b.mails.length ≤ 10 := by omega
    have ci : (10 : Int) < b.mails.length := by omega
    simp (maxSteps := 1000000) [exB, spec_BoxOk.m, spec_BoxOk.b, List.range_succ, bs_get, setAt, h1, h2, h3, h4, c1, c2, c3, c4, c5, c5', ci, boxOk]
  have c5' : b.mails.length ≤ 10 := by omega
  have ci : ¬ (10 : Int) < b.mails.length := by omega
  cases c6 : gidsOk b.gone 40
  · simp (maxSteps := 1000000) [exB, spec_BoxOk.m, spec_BoxOk.b, List.range_succ, bs_get, setAt, h1, h2, h3, h4, h5, c1, c2, c3, c4, c5, ci, c6, boxOk]
  cases q : firstN (badMail b) b.mails.length with
  | none =>
    simp [sbxS, sbxSE, q, fin1] at hr
    simp (maxSteps := 1000000) [exB, spec_BoxOk.m, spec_BoxOk.b, List.range_succ, bs_get, setAt, h1, h2, h3, h4, h5, c1, c2, c3, c4, c5, c5', ci, c6, hr, boxOk, q]
  | some k =>
    simp [sbxS, q, fin1] at hr
    simp (maxSteps := 1000000) [exB, spec_BoxOk.m, spec_BoxOk.b, List.range_succ, bs_get, setAt, h1, h2, h3, h4, h5, c1, c2, c3, c4, c5, c5', ci, c6, hr, boxOk, q]
end Mx

/-
  Texts of mails and boxes; the law of BoxText.
-/
namespace Mx
open Go
variable {M : Nat → Option Body}
theorem inR_iff {a n b : Int} : inR a n b = true ↔ a ≤ n ∧ n ≤ b := by simp [inR]
def varI (n : Int) : List UInt8 := varT n.toNat
theorem varI_len {n : Int} (h : n ≤ 9223372036854775807) : (varI n).length ≤ 10 := varT_len (by omega)
theorem spec_l01Var.int (h : spec_l01Var.k M) (n : Int) (h0 : 0 ≤ n) (h1 : n ≤ 9223372036854775807) : run M 99 [.c (I n)] [] = some (.c (S (varI n)), []) := by
  have := spec_l01Var.says h n.toNat (by omega)
  rw [show ((n.toNat : Nat) : Int) = n by omega] at this
  exact this
theorem impl_VarText.int (h : impl_VarText.k M) (n : Int) (h0 : 0 ≤ n) (h1 : n ≤ 1000000000) : run M 230 [.c (I n)] [] = some (.tup [.c (S (varI n)), .c (.bool true)], []) := by
  have := impl_VarText.says h n.toNat (by omega)
  rw [show ((n.toNat : Nat) : Int) = n by omega, if_pos (by omega), decide_eq_true (by omega)] at this
  exact this
def isVar (n : Int) : Prop := 0 ≤ n ∧ n ≤ 1000000000
theorem isVar_len {n : Int} (h : isVar n) : (varI n).length ≤ 10 := varI_len (by have := h.2; omega)
def vrS (l : List Int) (i : Nat) (s : List UInt8) (x : Nat) : St := { t := [(3, .c (S s)), (8, .c (ints l)), (9, .c (I l.length)), (10, .c (I i))], o := [], n := x }
def vrE (l : List Int) (s : List UInt8) (x : Nat) : St := { t := [(3, .c (S s)), (8, .c (ints l)), (9, .c (I l.length)), (10, .c (I l.length)), (11, .c (.bool false))], o := [], n := x }
theorem impl_vars.says (h : impl_vars.k M) (l : List Int) (hl : l.length ≤ 1048576) (hv : ∀ n ∈ l, isVar n) : run M 151 [.c (ints l)] [] = some (.c (S (texts varI l)), []) := by
  refine run_code (b := impl_vars.m) h.1 ⟨l.length + 1, ?_⟩
  obtain ⟨g, hr⟩ := text_loop (f := exC (run M) (l.length + 1) impl_vars.l0) l varI 10 0 (fun n hn => isVar_len (hv n hn)) (vrS l) 0 (vrE l)
    (fun i hi s x hs => by
      have e5 : IntKind.i64.wrap ((i : Int) + 1) = (i : Int) + 1 := wrap_i64 (by omega) (by omega)
      have h1 := impl_VarText.int h.2 l[i] (hv _ (List.getElem_mem hi)).1 (hv _ (List.getElem_mem hi)).2
      have h2 := isVar_len (hv _ (List.getElem_mem hi))
      simp (maxSteps := 1000000) (disch := (first | omega | (simp; done) | (simp; omega))) [impl_vars.l0, List.range_succ, bs_get, List.take_of_length_le, setAt, str_add, vrS, hi, h1, e5])
    (fun s x => by simp (maxSteps := 1000000) [impl_vars.l0, List.range_succ, bs_get, setAt, vrS, vrE]) [] (by simp)
  simp [vrS, vrE] at hr
  simp (maxSteps := 1000000) [exB, impl_vars.m, impl_vars.b, List.range_succ, bs_get, setAt, hr]

/-! ## mails -/
def regT (r : Reg) : List UInt8 := texts varI [r.val, r.time, r.who]
def mailT (m : Mail) : List UInt8 := texts varI [m.gid, m.uid] ++ texts regT m.flags ++ shortT m.text
theorem regOk_vars {r : Reg} (h : regOk r = true) : isVar r.val ∧ isVar r.time ∧ isVar r.who := by
  simp only [regOk, stampOk, Bool.and_eq_true, inR_iff] at h
  unfold isVar; omega
theorem flagsOk_regs {l : List Reg} (h : flagsOk l = true) : l.length = 3 ∧ ∀ r ∈ l, regOk r = true := by
  simp only [flagsOk, Bool.and_eq_true, decide_eq_true_eq, Option.isNone_iff_eq_none, firstN_isNone] at h
  refine ⟨h.2, fun r hr => ?_⟩
  obtain ⟨i, hi, e⟩ := List.getElem_of_mem hr
  have := h.1 i hi
  rw [badFlag_at hi, e] at this
  simp at this
  exact this.1
theorem mailOk_vars {m : Mail} (h : mailOk m = true) : isVar m.gid ∧ isVar m.uid ∧ m.flags.length = 3 ∧ (∀ r ∈ m.flags, regOk r = true) ∧ m.text.length ≤ 60 := by
  simp only [mailOk, Bool.and_eq_true, inR_iff, decide_eq_true_eq] at h
  have hf := flagsOk_regs h.1.2
  exact ⟨⟨by omega, by omega⟩, ⟨by omega, by omega⟩, hf.1, hf.2, h.2⟩
theorem regT_len {r : Reg} (h : regOk r = true) : (regT r).length ≤ 30 := by
  have h1 := regOk_vars h
  have := isVar_len h1.1; have := isVar_len h1.2.1; have := isVar_len h1.2.2
  simp [regT, texts]; omega
theorem mailT_len {m : Mail} (h : mailOk m = true) : (mailT m).length ≤ 1000 := by
  obtain ⟨h1, h2, h3, h4, h5⟩ := mailOk_vars h
  have := isVar_len h1; have := isVar_len h2
  have h6 := texts_len regT m.flags 30 fun r hr => regT_len (h4 r hr)
  have h7 := varT_len (n := m.text.length) (by omega)
  rw [h3] at h6
  simp only [mailT, shortT, List.length_append]
  have : (texts varI [m.gid, m.uid]).length ≤ 20 := by simp [texts]; omega
  omega
def mtS (m : Mail) (i : Nat) (s : List UInt8) (x : Nat × Nat) : St := { t := [(1, .c (.ptr 1 x.1 0 0)), (4, .c (S s)), (17, .c (regs m.flags)), (18, .c (I m.flags.length)), (19, .c (I i))], o := [(1, ⟨x.1, 4, true, true, [encMail m]⟩)], n := x.2 }
def mtE (m : Mail) (s : List UInt8) (x : Nat × Nat) : St := { t := [(1, .c (.ptr 1 x.1 0 0)), (4, .c (S s)), (17, .c (regs m.flags)), (18, .c (I m.flags.length)), (19, .c (I m.flags.length)), (20, .c (.bool false))], o := [(1, ⟨x.1, 4, true, true, [encMail m]⟩)], n := x.2 }
theorem impl_MailText.says (h : impl_MailText.k M) (m : Mail) (hl : m.flags.length ≤ 1048576) : run M 213 [.a (encMail m)] [] = some (.tup [.c (S (if mailOk m = true then mailT m else [])), .c (.bool (mailOk m))], []) := by
  obtain ⟨h0, ks, kv, ko⟩ := h
  have h1 := impl_MailOk.says ko m hl
  refine run_code (b := impl_MailText.m) h0 ⟨m.flags.length + 1, ?_⟩
  simp only [encMail] at h1
  cases c : mailOk m
  · rw [c] at h1
    simp (maxSteps := 1000000) [exB, impl_MailText.m, impl_MailText.b, List.range_succ, bs_get, setAt, h1]
  rw [c] at h1
  obtain ⟨v1, v2, v3, v4, v5⟩ := mailOk_vars c
  have h2 := impl_vars.says kv [m.gid, m.uid] (by simp) (by simp; exact ⟨v1, v2⟩)
  have h3 := impl_short.says ks m.text (by omega)
  have l1 : (texts varI [m.gid, m.uid]).length ≤ 20 := by have := isVar_len v1; have := isVar_len v2; simp [texts]; omega
  obtain ⟨g, hr⟩ := text_loop (f := exC (run M) (m.flags.length + 1) impl_MailText.l0) m.flags regT 30 20 (fun r hr => regT_len (v4 r hr)) (mtS m) 0 (mtE m)
    (fun i hi s x hs => by
      obtain ⟨v, x⟩ := x
      have e5 : IntKind.i64.wrap ((i : Int) + 1) = (i : Int) + 1 := wrap_i64 (by omega) (by omega)
      have hx := regOk_vars (v4 _ (List.getElem_mem hi))
      have h4 := impl_vars.says kv [m.flags[i].val, m.flags[i].time, m.flags[i].who] (by simp) (by simp; exact ⟨hx.1, hx.2.1, hx.2.2⟩)
      have h5 := regT_len (v4 _ (List.getElem_mem hi))
      change run M 151 _ _ = some (.c (S (regT m.flags[i])), []) at h4
      simp only [ints, irow, List.map_cons, List.map_nil] at h4
      simp only [Prod.exists]
      simp (maxSteps := 1000000) (disch := (first | omega | (simp; done) | (simp; omega))) [impl_MailText.l0, List.range_succ, bs_get, List.take_of_length_le, setAt, str_add, mtS, hi, h4, e5, encReg])
    (fun s x => by
      obtain ⟨v, x⟩ := x
      simp only [Prod.exists]
      simp (maxSteps := 1000000) [impl_MailText.l0, List.range_succ, bs_get, setAt, mtS, mtE]) (texts varI [m.gid, m.uid]) l1
  have l2 := texts_len regT m.flags 30 fun r hr => regT_len (v4 r hr)
  have l3 := varT_len (n := m.text.length) (by omega)
  have l4 : (shortT m.text).length ≤ 70 := by simp [shortT]; omega
  have l5 : (texts varI [m.gid, m.uid] ++ texts regT m.flags).length + (shortT m.text).length ≤ 4611686018427387904 := by simp; omega
  simp only [ints, irow, List.map_cons, List.map_nil] at h2
  generalize hp : texts varI [m.gid, m.uid] = p at *
  simp [mtS, mtE] at hr
  simp at l5
  simp (maxSteps := 1000000) (disch := (first | omega | (simp; done) | (simp; omega))) [exB, impl_MailText.m, impl_MailText.b, List.range_succ, bs_get, List.take_of_length_le, setAt, str_add, hr, h1, h2, h3, mailT, hp]
def msS (m : Mail) (i : Nat) (s : List UInt8) (x : Nat × Nat) : St := { t := [(1, .c (.ptr 1 x.1 0 0)), (4, .c (S s)), (5, .c (I i))], o := [(1, ⟨x.1, 4, true, true, [encMail m]⟩)], n := x.2 }
def msE (m : Mail) (s : List UInt8) (x : Nat × Nat) : St := { t := [(1, .c (.ptr 1 x.1 0 0)), (4, .c (S s)), (5, .c (I m.flags.length)), (20, .c (.bool false))], o := [(1, ⟨x.1, 4, true, true, [encMail m]⟩)], n := x.2 }
theorem spec_MailText.says (h : spec_MailText.k M) (m : Mail) (hl : m.flags.length ≤ 1048576) : run M 122 [.a (encMail m)] [] = some (.tup [.c (S (if mailOk m = true then mailT m else [])), .c (.bool (mailOk m))], []) := by
  obtain ⟨h0, kv, ko⟩ := h
  have h1 := spec_MailOk.says ko m hl
  refine run_code (b := spec_MailText.m) h0 ⟨m.flags.length + 1, ?_⟩
  simp only [encMail] at h1
  cases c : mailOk m
  · rw [c] at h1
    simp (maxSteps := 1000000) [exB, spec_MailText.m, spec_MailText.b, List.range_succ, bs_get, setAt, h1]
  rw [c] at h1
  obtain ⟨v1, v2, v3, v4, v5⟩ := mailOk_vars c
  have h2 := spec_l01Var.int kv m.gid v1.1 (by have := v1.2; omega)
  have h2' := spec_l01Var.int kv m.uid v2.1 (by have := v2.2; omega)
  have h3 := spec_l01Var.says kv m.text.length (by omega)
  have l0 := isVar_len v1
  have l0' := isVar_len v2
  obtain ⟨g, hr⟩ := text_loop (f := exC (run M) (m.flags.length + 1) spec_MailText.l0) m.flags regT 30 20 (fun r hr => regT_len (v4 r hr)) (msS m) 0 (msE m)
    (fun i hi s x hs => by
      obtain ⟨v, x⟩ := x
      have e5 : IntKind.i64.wrap ((i : Int) + 1) = (i : Int) + 1 := wrap_i64 (by omega) (by omega)
      have hx := regOk_vars (v4 _ (List.getElem_mem hi))
      have h4 := spec_l01Var.int kv m.flags[i].val hx.1.1 (by have := hx.1.2; omega)
      have h5 := spec_l01Var.int kv m.flags[i].time hx.2.1.1 (by have := hx.2.1.2; omega)
      have h6 := spec_l01Var.int kv m.flags[i].who hx.2.2.1 (by have := hx.2.2.2; omega)
      have l1 := isVar_len hx.1
      have l2 := isVar_len hx.2.1
      have l3 := isVar_len hx.2.2
      simp only [Prod.exists]
      simp (maxSteps := 1000000) (disch := (first | omega | (simp; done) | (simp; omega))) [spec_MailText.l0, List.range_succ, bs_get, List.take_of_length_le, setAt, str_add, msS, hi, h4, h5, h6, e5, encReg, regT, texts])
    (fun s x => by
      obtain ⟨v, x⟩ := x
      simp only [Prod.exists]
      simp (maxSteps := 1000000) [spec_MailText.l0, List.range_succ, bs_get, setAt, msS, msE]) (varI m.gid ++ varI m.uid) (by simp; omega)
  have l2 := texts_len regT m.flags 30 fun r hr => regT_len (v4 r hr)
  have l3 := varT_len (n := m.text.length) (by omega)
  have hp : texts varI [m.gid, m.uid] = varI m.gid ++ varI m.uid := by simp [texts]
  have hm : mailT m = varI m.gid ++ (varI m.uid ++ (texts regT m.flags ++ (varT m.text.length ++ m.text))) := by simp [mailT, hp, shortT]
  simp [msS, msE] at hr
  rw [hm]
  simp (maxSteps := 1000000) (disch := (first | omega | (simp; done) | (simp; omega))) [exB, spec_MailText.m, spec_MailText.b, List.range_succ, bs_get, List.take_of_length_le, setAt, str_add, hr, h1, h2, h2', h3]

/-! ## boxes -/
theorem stampOk_vars {t w : Int} (h : stampOk t w = true) : isVar t ∧ isVar w := by
  simp only [stampOk, Bool.and_eq_true, inR_iff] at h
  unfold isVar; omega
theorem gidsOk_vars {l : List Int} {most : Int} (h : gidsOk l most = true) : (l.length : Int) ≤ most ∧ ∀ n ∈ l, 1 ≤ n ∧ n ≤ 9999 := by
  simp only [gidsOk, Bool.and_eq_true, decide_eq_true_eq, Option.isNone_iff_eq_none, firstN_isNone] at h
  refine ⟨h.2, fun r hr => ?_⟩
  obtain ⟨i, hi, e⟩ := List.getElem_of_mem hr
  have := h.1 i hi
  rw [badGid_at hi, e] at this
  simp at this
  exact inR_iff.1 this.1
theorem nameOk_len {l : List UInt8} (h : nameOk l = true) : 1 ≤ l.length ∧ l.length ≤ 12 := by
  simp only [nameOk, Bool.and_eq_true, inR_iff] at h
  omega
theorem boxOk_vars {b : Box} (h : boxOk b = true) : isVar b.gid ∧ b.name.length ≤ 12 ∧ isVar b.time ∧ isVar b.who ∧ isVar b.next ∧ b.mails.length ≤ 10 ∧ b.gone.length ≤ 40 ∧ (∀ n ∈ b.gone, isVar n) ∧ ∀ m ∈ b.mails, mailOk m = true := by
  simp only [boxOk, Bool.and_eq_true, decide_eq_true_eq, Option.isNone_iff_eq_none, firstN_isNone, inR_iff] at h
  obtain ⟨⟨⟨⟨⟨⟨h1, h2⟩, h3⟩, h4⟩, h5⟩, h6⟩, h7⟩ := h
  have hn := nameOk_len h2
  have hs := stampOk_vars h3
  have hg := gidsOk_vars h6
  refine ⟨⟨by omega, by omega⟩, hn.2, hs.1, hs.2, ⟨by omega, by omega⟩, h5, by omega, fun n hn => ⟨by have := hg.2 n hn; omega, by have := hg.2 n hn; omega⟩, fun m hm => ?_⟩
  obtain ⟨i, hi, e⟩ := List.getElem_of_mem hm
  have := h7 i hi
  rw [badMail_at hi, e] at this
  simp at this
  exact this.1.1.1.1
/-- ahead of the mails -/
def boxP (b : Box) : List UInt8 := varI b.gid ++ (varT b.name.length ++ (b.name ++ (varI b.time ++ (varI b.who ++ (varI b.next ++ varT b.mails.length)))))
def boxT (b : Box) : List UInt8 := boxP b ++ (texts mailT b.mails ++ (varT b.gone.length ++ texts varI b.gone))
theorem boxP_len {b : Box} (h : boxOk b = true) : (boxP b).length ≤ 200 := by
  obtain ⟨h1, h2, h3, h4, h5, h6, _⟩ := boxOk_vars h
  have := isVar_len h1; have := isVar_len h3; have := isVar_len h4; have := isVar_len h5
  have := varT_len (n := b.name.length) (by omega); have := varT_len (n := b.mails.length) (by omega)
  simp [boxP]; omega
def bxS (b : Box) (i : Nat) (s : List UInt8) (x : Nat × Nat) : St := { t := [(1, .c (.ptr 1 x.1 0 0)), (3, .c (S s)), (31, .c (mails b.mails)), (32, .c (I b.mails.length)), (33, .c (I i))], o := [(1, ⟨x.1, 7, true, true, [encBox b]⟩)], n := x.2 }
def bxE (b : Box) (s : List UInt8) (x : Nat × Nat) : St := { t := [(1, .c (.ptr 1 x.1 0 0)), (3, .c (S s)), (31, .c (mails b.mails)), (32, .c (I b.mails.length)), (33, .c (I b.mails.length)), (34, .c (.bool false))], o := [(1, ⟨x.1, 7, true, true, [encBox b]⟩)], n := x.2 }
set_option maxHeartbeats 1000000 in
theorem impl_boxText.says (h : impl_boxText.k M) (b : Box) (c : boxOk b = true) : run M 123 [.a (encBox b)] [] = some (.c (S (boxT b)), []) := by
  obtain ⟨h0, ks, kv, km⟩ := h
  refine run_code (b := impl_boxText.m) h0 ⟨b.mails.length + 1, ?_⟩
  obtain ⟨v1, v2, v3, v4, v5, v6, v7, v8, v9⟩ := boxOk_vars c
  have h1 := impl_vars.says kv [b.gid] (by simp) (by simp; exact v1)
  have h2 := impl_short.says ks b.name (by omega)
  have h3 := impl_vars.says kv [b.time, b.who, b.next, b.mails.length] (by simp) (by simp; exact ⟨v3, v4, v5, by unfold isVar; omega⟩)
  have h4 := impl_vars.says kv [b.gone.length] (by simp) (by simp; unfold isVar; omega)
  have h5 := impl_vars.says kv b.gone (by omega) v8
  have l1 := isVar_len v1; have l3 := isVar_len v3; have l4 := isVar_len v4; have l5 := isVar_len v5
  have l6 := varT_len (n := b.name.length) (by omega); have l7 := varT_len (n := b.mails.length) (by omega); have l8 := varT_len (n := b.gone.length) (by omega)
  have l9 := texts_len varI b.gone 10 fun n hn => isVar_len (v8 n hn)
  have l10 := texts_len mailT b.mails 1000 fun m hm => mailT_len (v9 m hm)
  have hp := boxP_len c
  obtain ⟨g, hr⟩ := text_loop (f := exC (run M) (b.mails.length + 1) impl_boxText.l0) b.mails mailT 1000 200 (fun m hm => mailT_len (v9 m hm)) (bxS b) 0 (bxE b)
    (fun i hi s x hs => by
      obtain ⟨v, x⟩ := x
      have e5 : IntKind.i64.wrap ((i : Int) + 1) = (i : Int) + 1 := wrap_i64 (by omega) (by omega)
      have hx := v9 _ (List.getElem_mem hi)
      have h6 := impl_MailText.says km b.mails[i] (by have := (mailOk_vars hx).2.2.1; omega)
      rw [if_pos hx, hx] at h6
      have h7 := mailT_len hx
      simp only [encMail] at h6
      simp only [Prod.exists]
      simp (maxSteps := 1000000) (disch := (first | omega | (simp; done) | (simp; omega))) [impl_boxText.l0, List.range_succ, bs_get, List.take_of_length_le, setAt, str_add, bxS, hi, h6, e5, encMail])
    (fun s x => by
      obtain ⟨v, x⟩ := x
      simp only [Prod.exists]
      simp (maxSteps := 1000000) [impl_boxText.l0, List.range_succ, bs_get, setAt, bxS, bxE]) (boxP b) hp
  have q1 : texts varI [b.gid] = varI b.gid := by simp [texts]
  have q3 : texts varI [b.time, b.who, b.next, (b.mails.length : Int)] = varI b.time ++ (varI b.who ++ (varI b.next ++ varT b.mails.length)) := by simp [texts, varI]
  have q4 : texts varI [(b.gone.length : Int)] = varT b.gone.length := by simp [texts, varI]
  rw [q1] at h1
  rw [q3] at h3
  rw [q4] at h4
  simp only [ints, irow, List.map_cons, List.map_nil, shortT] at h1 h2 h3 h4
  simp [bxS, bxE] at hr
  have e1 := str_add (varI b.gid) (varT b.name.length ++ b.name) (by simp; omega)
  have e2 := str_add (varI b.gid ++ (varT b.name.length ++ b.name)) (varI b.time ++ (varI b.who ++ (varI b.next ++ varT b.mails.length))) (by simp; omega)
  have e3 : boxP b = (varI b.gid ++ (varT b.name.length ++ b.name)) ++ (varI b.time ++ (varI b.who ++ (varI b.next ++ varT b.mails.length))) := by simp [boxP]
  rw [← e3] at e2
  have e4 := str_add (boxP b ++ texts mailT b.mails) (varT b.gone.length) (by simp; omega)
  have e5 := str_add (boxP b ++ texts mailT b.mails ++ varT b.gone.length) (texts varI b.gone) (by simp; omega)
  simp only [List.append_assoc] at e1 e2 e4 e5
  simp only [boxT]
  generalize boxP b = p at *
  generalize texts mailT b.mails = q at *
  generalize texts varI b.gone = r at *
  simp (maxSteps := 1000000) [exB, impl_boxText.m, impl_boxText.b, List.range_succ, bs_get, setAt, hr, h1, h2, h3, h4, h5, e1, e2, e4, e5, List.take_of_length_le]
theorem impl_BoxText.says (h : impl_BoxText.k M) (b : Box) (hml : b.mails.length ≤ 1048576) (hgl : b.gone.length ≤ 4611686018427387904) (hnl : b.name.length ≤ 4611686018427387904) (hw : ∀ m ∈ b.mails, m.flags.length ≤ 1048576) :
    run M 35 [.a (encBox b)] [] = some (.tup [.c (S (if boxOk b = true then boxT b else [])), .c (.bool (boxOk b))], []) := by
  obtain ⟨h0, ko, kt⟩ := h
  have h1 := impl_BoxOk.says ko b hml hgl hnl hw
  refine run_code (b := impl_BoxText.m) h0 ⟨0, ?_⟩
  simp only [encBox] at h1
  cases c : boxOk b
  · rw [c] at h1
    simp (maxSteps := 1000000) [exB, impl_BoxText.m, impl_BoxText.b, List.range_succ, bs_get, setAt, h1]
  rw [c] at h1
  have h2 := impl_boxText.says kt b c
  simp only [encBox] at h2
  simp (maxSteps := 1000000) [exB, impl_BoxText.m, impl_BoxText.b, List.range_succ, bs_get, setAt, h1, h2]
def btS (b : Box) (i : Nat) (s : List UInt8) (x : Nat × Nat) : St := { t := [(1, .c (.ptr 1 x.1 0 0)), (4, .c (S s)), (5, .c (I i))], o := [(1, ⟨x.1, 7, true, true, [encBox b]⟩)], n := x.2 }
def btE (b : Box) (s : List UInt8) (x : Nat × Nat) : St := { t := [(1, .c (.ptr 1 x.1 0 0)), (4, .c (S s)), (5, .c (I b.mails.length)), (46, .c (.bool false))], o := [(1, ⟨x.1, 7, true, true, [encBox b]⟩)], n := x.2 }
def bgS (b : Box) (i : Nat) (s : List UInt8) (x : Nat × Nat) : St := { t := [(1, .c (.ptr 1 x.1 0 0)), (4, .c (S s)), (8, .c (I i))], o := [(1, ⟨x.1, 7, true, true, [encBox b]⟩)], n := x.2 }
def bgE (b : Box) (s : List UInt8) (x : Nat × Nat) : St := { t := [(1, .c (.ptr 1 x.1 0 0)), (4, .c (S s)), (8, .c (I b.gone.length)), (71, .c (.bool false))], o := [(1, ⟨x.1, 7, true, true, [encBox b]⟩)], n := x.2 }
set_option maxHeartbeats 1000000 in
theorem spec_BoxText.says (h : spec_BoxText.k M) (b : Box) (hml : b.mails.length ≤ 1048576) (hgl : b.gone.length ≤ 4611686018427387904) (hnl : b.name.length ≤ 4611686018427387904) (hw : ∀ m ∈ b.mails, m.flags.length ≤ 1048576) :
    run M 34 [.a (encBox b)] [] = some (.tup [.c (S (if boxOk b = true then boxT b else [])), .c (.bool (boxOk b))], []) := by
  obtain ⟨h0, ko, kv, km⟩ := h
  have h1 := spec_BoxOk.says ko b hml hgl hnl hw
  refine run_code (b := spec_BoxText.m) h0 ⟨b.mails.length + b.gone.length + 1, ?_⟩
  simp only [encBox] at h1
  cases c : boxOk b
  · rw [c] at h1
    simp (maxSteps := 1000000) [exB, spec_BoxText.m, spec_BoxText.b, List.range_succ, bs_get, setAt, h1]
  rw [c] at h1
  obtain ⟨v1, v2, v3, v4, v5, v6, v7, v8, v9⟩ := boxOk_vars c
  have g1 := spec_l01Var.int kv b.gid v1.1 (by have := v1.2; omega)
  have g2 := spec_l01Var.says kv b.name.length (by omega)
  have g3 := spec_l01Var.int kv b.time v3.1 (by have := v3.2; omega)
  have g4 := spec_l01Var.int kv b.who v4.1 (by have := v4.2; omega)
  have g5 := spec_l01Var.int kv b.next v5.1 (by have := v5.2; omega)
  have g6 := spec_l01Var.says kv b.mails.length (by omega)
  have g7 := spec_l01Var.says kv b.gone.length (by omega)
  have l1 := isVar_len v1; have l3 := isVar_len v3; have l4 := isVar_len v4; have l5 := isVar_len v5
  have l6 := varT_len (n := b.name.length) (by omega); have l7 := varT_len (n := b.mails.length) (by omega); have l8 := varT_len (n := b.gone.length) (by omega)
  have l9 := texts_len varI b.gone 10 fun n hn => isVar_len (v8 n hn)
  have l10 := texts_len mailT b.mails 1000 fun m hm => mailT_len (v9 m hm)
  have hp := boxP_len c
  obtain ⟨g, hr⟩ := text_loop (f := exC (run M) (b.mails.length + b.gone.length + 1) spec_BoxText.l0) b.mails mailT 1000 200 (fun m hm => mailT_len (v9 m hm)) (btS b) 0 (btE b)
    (fun i hi s x hs => by
      obtain ⟨v, x⟩ := x
      have e5 : IntKind.i64.wrap ((i : Int) + 1) = (i : Int) + 1 := wrap_i64 (by omega) (by omega)
      have hx := v9 _ (List.getElem_mem hi)
      have h6 := spec_MailText.says km b.mails[i] (by have := (mailOk_vars hx).2.2.1; omega)
      rw [if_pos hx, hx] at h6
      have h7 := mailT_len hx
      simp only [encMail] at h6
      simp only [Prod.exists]
      have e6 := str_add s (mailT b.mails[i]) (by omega)
      simp (maxSteps := 1000000) [spec_BoxText.l0, List.range_succ, bs_get, setAt, btS, hi, h6, e5, e6, encMail])
    (fun s x => by
      obtain ⟨v, x⟩ := x
      simp only [Prod.exists]
      simp (maxSteps := 1000000) [spec_BoxText.l0, List.range_succ, bs_get, setAt, btS, btE]) (boxP b) hp
  obtain ⟨g', hr'⟩ := text_loop (f := exC (run M) (b.mails.length + b.gone.length + 1) spec_BoxText.l1) b.gone varI 10 11000 (fun n hn => isVar_len (v8 n hn)) (bgS b) 2 (bgE b)
    (fun i hi s x hs => by
      obtain ⟨v, x⟩ := x
      have e5 : IntKind.i64.wrap ((i : Int) + 1) = (i : Int) + 1 := wrap_i64 (by omega) (by omega)
      have hx := v8 _ (List.getElem_mem hi)
      have h6 := spec_l01Var.int kv b.gone[i] hx.1 (by have := hx.2; omega)
      have h7 := isVar_len hx
      simp only [Prod.exists]
      have e6 := str_add s (varI b.gone[i]) (by omega)
      simp (maxSteps := 1000000) [spec_BoxText.l1, List.range_succ, bs_get, setAt, bgS, hi, h6, e5, e6])
    (fun s x => by
      obtain ⟨v, x⟩ := x
      simp only [Prod.exists]
      simp (maxSteps := 1000000) [spec_BoxText.l1, List.range_succ, bs_get, setAt, bgS, bgE]) (boxP b ++ texts mailT b.mails ++ varT b.gone.length) (by simp; omega)
  have e1 := str_add (varI b.gid) (varT b.name.length) (by omega)
  have e2 := str_add (varI b.gid ++ varT b.name.length) b.name (by simp; omega)
  have e3 := str_add (varI b.gid ++ varT b.name.length ++ b.name) (varI b.time) (by simp; omega)
  have e4 := str_add (varI b.gid ++ varT b.name.length ++ b.name ++ varI b.time) (varI b.who) (by simp; omega)
  have e5 := str_add (varI b.gid ++ varT b.name.length ++ b.name ++ varI b.time ++ varI b.who) (varI b.next) (by simp; omega)
  have e6 := str_add (varI b.gid ++ varT b.name.length ++ b.name ++ varI b.time ++ varI b.who ++ varI b.next) (varT b.mails.length) (by simp; omega)
  have e7 : boxP b = varI b.gid ++ varT b.name.length ++ b.name ++ varI b.time ++ varI b.who ++ varI b.next ++ varT b.mails.length := by simp [boxP]
  rw [← e7] at e6
  have e8 := str_add (boxP b ++ texts mailT b.mails) (varT b.gone.length) (by simp; omega)
  simp only [List.append_assoc] at e1 e2 e3 e4 e5 e6 e8
  simp [btS, btE] at hr
  simp [bgS, bgE] at hr'
  simp only [boxT]
  have m1 : b.mails.length + 1 ≤ b.mails.length + b.gone.length + 1 := by omega
  have m2 : b.gone.length + 1 ≤ b.mails.length + b.gone.length + 1 := by omega
  have hr2 := fun x y => loopN_le (hr x y) m1
  have hr3 := fun x y => loopN_le (hr' x y) m2
  generalize boxP b = p at *
  generalize texts mailT b.mails = q at *
  generalize texts varI b.gone = r at *
  simp (maxSteps := 1000000) [exB, spec_BoxText.m, spec_BoxText.b, List.range_succ, bs_get, setAt, hr2, hr3, h1, g1, g2, g3, g4, g5, g6, g7, e1, e2, e3, e4, e5, e6, e8]
theorem wBox_all {b : Box} {n : Nat} (h : wBox b ≤ n) : b.mails.length ≤ n ∧ b.gone.length ≤ n ∧ b.name.length ≤ n ∧ ∀ m ∈ b.mails, m.flags.length ≤ n := by
  unfold wBox at h
  refine ⟨by unfold wMails at h; omega, by omega, by omega, fun m hm => ?_⟩
  have := wMail_le hm; unfold wMail at this; omega
theorem laws_FnExactBoxText.says (h : laws_FnExactBoxText.k M) (b : Box) (hb : BoxFits b) : run M 368 [.a (encBox b)] [] = some (.c (.bool true), []) := by
  obtain ⟨h0, k1, k2, k5, k3, k4⟩ := h
  have h1 := laws_szBox.says k1 b hb 1048576 (by omega)
  refine run_code (b := laws_FnExactBoxText.m) h0 ⟨0, ?_⟩
  by_cases c : 1048576 < wBox b
  · rw [if_pos c] at h1
    simp only [Int.cast_ofNat_Int, encBox] at h1
    simp (maxSteps := 1000000) [exB, laws_FnExactBoxText.m, laws_FnExactBoxText.b, List.range_succ, bs_get, setAt, h1]
  · rw [if_neg c] at h1
    simp only [Int.cast_ofNat_Int] at h1
    have hw : wBox b ≤ 1048576 := by omega
    obtain ⟨w1, w2, w3, w4⟩ := wBox_all hw
    have e1 : ¬ (1048576 : Int) - wBox b < 0 := by omega
    have h2 := laws_toBox.says k2 b hw
    have h3 := spec_BoxText.says k3 b w1 (by omega) (by omega) w4
    have h4 := impl_BoxText.says k4 b w1 (by omega) (by omega) w4
    have h5 := laws_eqBox.says k5 b hw
    simp only [encBox, encBoxO] at h1 h2 h3 h4 h5
    generalize (if boxOk b = true then boxT b else []) = r at *
    generalize boxOk b = q at *
    simp (maxSteps := 1000000) [exB, laws_FnExactBoxText.m, laws_FnExactBoxText.b, List.range_succ, bs_get, setAt, h1, h2, h3, h4, h5, e1]
theorem laws_FnExactBoxText.row (h : laws_FnExactBoxText.k M) {as : List V} (ha : HasVs [.struct ctBox] as) : run M 368 as [] = some (.c (.bool true), []) := by
  cases ha with | cons h0 ha =>
  cases ha
  cases h0 with | struct h0 =>
  obtain ⟨b, rfl, hb⟩ := has_box h0
  exact laws_FnExactBoxText.says h b hb
end Mx
