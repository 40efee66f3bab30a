/-
  A function of Go's library by its contract: numbers, truths and texts in, one of them out, memory as it was.
-/
import Derived.Test.YteeddgnjannecaaMxB
import Derived.Lib.Bytealg
namespace Mx
open Go

def valT : T → Option Value
  | .int k n => some (.int k n)
  | .bool b => some (.bool b)
  | .str s => some (.string s)
  | _ => none
def cellV : V → Option T
  | .c t => some t
  | _ => none
def extG (g : List T → Option T) (as : List V) (lent : List (Nat × Ob)) : Option (V × List (Nat × Ob)) :=
  if lent.isEmpty then (match mapO cellV as with | some ts => (g ts).map fun r => (.c r, []) | none => none) else none

variable {P : Program} {F : Nat → FuncId}

theorem repV_val {X : Cx} {t : T} {v x : Value} (h : RepV X (.c t) x) (hv : valT t = some v) : x = v := by
  cases h with | c _ _ h =>
  cases t <;> simp [valT] at hv <;> subst hv <;> cases h <;> rfl
theorem resT_val {X : Cx} {own : Nat → Option Loc} {lent : List (Nat × Ob)} {q : Nat} {t : T} {v : Value} (hv : valT t = some v) : ResT X own lent q t v := by
  cases t <;> simp [valT] at hv <;> subst hv
  · exact .int _ _
  · exact .bool _
  · exact .str _

theorem mapO_len {α β : Type} {f : α → Option β} : ∀ {l : List α} {r : List β}, mapO f l = some r → r.length = l.length
  | [], r, h => by simp [mapO] at h; subst h; rfl
  | a :: l, r, h => by
    simp only [mapO] at h
    split at h <;> cases h
    rename_i y ys h1 h2
    simp [mapO_len h2]
theorem mapO_at {α β : Type} {f : α → Option β} : ∀ {l : List α} {r : List β} {i : Nat} {a : α}, mapO f l = some r → l[i]? = some a → ∃ b, r[i]? = some b ∧ f a = some b
  | [], r, i, a, h, hi => by simp at hi
  | x :: l, r, i, a, h, hi => by
    simp only [mapO] at h
    split at h <;> cases h
    rename_i y ys h1 h2
    cases i with
    | zero => simp at hi; subst hi; exact ⟨y, rfl, h1⟩
    | succ i => simpa using mapO_at h2 (by simpa using hi)

theorem ext_plain {f : Nat} {g : List T → Option T} (hf : okFn P F f = true)
    (h : ∀ ts r, g ts = some r → ∃ xs x, mapO valT ts = some xs ∧ valT r = some x ∧ ∀ w, Calls P (F f) xs.toArray w fun e w' => e = .returned x ∧ w' = w) : ExtOk P F f (extG g) := by
  intro as lent res after hg
  refine ⟨hf, fun Pr E0 vals w En => ?_⟩
  unfold extG at hg
  split at hg
  · rename_i hl
    rw [List.isEmpty_iff] at hl
    subst hl
    split at hg
    · rename_i ts hts
      simp only [Option.map_eq_some_iff] at hg
      obtain ⟨r, hr, hg⟩ := hg
      cases hg
      obtain ⟨xs, x, h1, h2, h3⟩ := h ts r hr
      have hv : vals = xs.toArray := by
        apply Array.ext
        · rw [← En.n, List.size_toArray, mapO_len h1, mapO_len hts]
        · intro i hi hi'
          have hi1 : i < as.length := by rw [En.n]; exact hi
          obtain ⟨t, k1, k2⟩ := mapO_at hts (List.getElem?_eq_getElem hi1)
          obtain ⟨v, k3, k4⟩ := mapO_at h1 k1
          have k5 := En.args i as[i] vals[i] (List.getElem?_eq_getElem hi1) (Array.getElem?_eq_getElem hi)
          have e1 : as[i] = .c t := by
            cases ha : as[i] with
            | c t' => rw [ha] at k2; simp [cellV] at k2; rw [k2]
            | a ts => rw [ha] at k2; simp [cellV] at k2
            | tup ts => rw [ha] at k2; simp [cellV] at k2
            | undef => rw [ha] at k2; simp [cellV] at k2
          rw [e1] at k5
          have := repV_val k5 k4
          rw [this]
          have e2 : xs[i]? = some v := k3
          have hi2 : i < xs.length := by simpa using hi'
          rw [List.getElem?_eq_getElem hi2] at e2
          simpa using (Option.some.inj e2).symm
      subst hv
      refine (h3 w).mono ?_
      rintro e w' ⟨rfl, rfl⟩
      refine ⟨x, E0, fun _ => none, rfl, rfl, rfl, rfl, Nat.le_refl _, fun b _ _ => rfl, fun v l h => h, fun q b cap sz h => (by cases h), fun q q' b cap sz cap' sz' h => (by cases h), ?_, fun p ob ob' l h => (by simp [get] at h)⟩
      simp only [ResA, ResV]
      exact resT_val h2
    · cases hg
  · cases hg

/-- a table of codes and of contracts -/
def tabX (tab : List (Nat × Fn)) (ext : List (Nat × (List T → Option T))) (f : Nat) : Option Body := match get tab f with
  | some b => some (.code b)
  | none => (get ext f).map fun g => .ext (extG g)
theorem table_ext {tab : List (Nat × Fn)} {ext : List (Nat × (List T → Option T))} (h : ∀ p ∈ tab, okFunc P F p.1 p.2 = true) (hx : ∀ p ∈ ext, ExtOk P F p.1 (extG p.2)) : TableOk P F (tabX tab ext) := by
  intro f
  unfold tabX
  cases hg : get tab f with
  | some b => exact h _ (get_mem hg)
  | none =>
    cases hq : get ext f with
    | none => simp
    | some g => exact hx _ (get_mem hq)

theorem run_ext_plain {M : Nat → Option Body} {f : Nat} {g : List T → Option T} (hM : M f = some (.ext (extG g))) {ts : List T} {r : T} (h : g ts = some r) : run M f (ts.map .c) [] = some (.c r, []) := by
  refine run_ext hM ?_
  have : mapO cellV (ts.map .c) = some ts := by
    induction ts with
    | nil => rfl
    | cons t ts ih => simp only [List.map_cons, mapO, cellV]; rw [show mapO cellV (ts.map .c) = some ts from by clear ih h; induction ts with | nil => rfl | cons t ts ih => simp only [List.map_cons, mapO, cellV, ih]]
  simp only [extG, List.isEmpty_nil, if_true, this, h, Option.map_some]
end Mx

/-
  What functions of Go's library answer that are taken by their contracts.
-/
namespace Mx
open Go
/-- strings.ContainsRune at a rune of one byte -/
def strings_ContainsRune.g : List T → Option T
  | [.str s, .int .i32 r] => if 0 ≤ r ∧ r < 128 then some (.bool (decide (0 ≤ Lib.indexByte s.data.toList r.toNat.toUInt8))) else none
  | _ => none
end Mx

/-
  Small codes: impl.within, spec.l01In.
-/
namespace Mx
open Go
def impl_within.b : C := .seq (.reg [⟨some 6, .mv (.k (.bool false)), none⟩] [0, 1, 2] [])
  (.seq (.reg [⟨some 7, .mv (.t 0), none⟩,
    ⟨some 8, .mv (.t 1), none⟩,
    ⟨some 9, .bin .geq (.t 7) (.t 8), none⟩,
    ⟨some 10, .mv (.t 9), none⟩,
    ⟨some 11, .mv (.t 0), some (10, true)⟩,
    ⟨some 12, .mv (.t 2), some (10, true)⟩,
    ⟨some 13, .bin .leq (.t 11) (.t 12), some (10, true)⟩,
    ⟨some 14, .pick (.t 10) (.t 13) (.k (.bool false)), none⟩,
    ⟨some 6, .mv (.t 14), none⟩] [6] [])
  (.ret))
def impl_within.m : Fn := { np := 3, body := impl_within.b, res := [.tmp 6] }
def impl_within.k (M : Nat → Option Body) : Prop := M 101 = some (.code impl_within.m)
def spec_l01In.b : C := .seq (.reg [⟨some 6, .mv (.k (.bool false)), none⟩] [0, 1, 2] [])
  (.seq (.reg [⟨some 7, .mv (.t 0), none⟩,
    ⟨some 8, .mv (.t 1), none⟩,
    ⟨some 9, .bin .geq (.t 7) (.t 8), none⟩,
    ⟨some 10, .mv (.t 9), none⟩,
    ⟨some 11, .mv (.t 0), some (10, true)⟩,
    ⟨some 12, .mv (.t 2), some (10, true)⟩,
    ⟨some 13, .bin .leq (.t 11) (.t 12), some (10, true)⟩,
    ⟨some 14, .pick (.t 10) (.t 13) (.k (.bool false)), none⟩,
    ⟨some 6, .mv (.t 14), none⟩] [6] [])
  (.ret))
def spec_l01In.m : Fn := { np := 3, body := spec_l01In.b, res := [.tmp 6] }
def spec_l01In.k (M : Nat → Option Body) : Prop := M 98 = some (.code spec_l01In.m)
end Mx

/-
  Small codes: spec.AtomOk, impl.isAtom, impl.AtomOk, laws.FnExactAtomOk.
-/
namespace Mx
open Go
def spec_AtomOk.l0 : C := .seq (.seq (.reg [⟨some 5, .mv (.t 3), none⟩,
    ⟨some 6, .mv (.t 0), none⟩,
    ⟨some 7, .slen (.t 6), none⟩,
    ⟨some 8, .bin .lss (.t 5) (.t 7), none⟩] [0, 3, 8] [])
  (.cond (.t 8) (.skip) (.exit 0)))
  (.seq (.block 1 (.seq (.reg [⟨some 11, .mv (.t 0), none⟩,
    ⟨some 12, .mv (.t 3), none⟩,
    ⟨some 13, .idx (.t 11) (.t 12), none⟩,
    ⟨some 4, .mv (.t 13), none⟩] [0, 3, 4] [])
  (.seq (.reg [⟨some 14, .mv (.t 4), none⟩,
    ⟨some 15, .bin .lss (.t 14) (.k (.int .u8 33)), none⟩,
    ⟨some 16, .mv (.t 15), none⟩,
    ⟨some 17, .mv (.t 4), some (16, false)⟩,
    ⟨some 18, .bin .gtr (.t 17) (.k (.int .u8 126)), some (16, false)⟩,
    ⟨some 19, .pick (.t 16) (.k (.bool true)) (.t 18), none⟩,
    ⟨some 20, .mv (.t 19), none⟩,
    ⟨some 21, .mv (.t 4), some (20, false)⟩,
    ⟨some 22, .bin .eql (.t 21) (.k (.int .u8 34)), some (20, false)⟩,
    ⟨some 23, .pick (.t 20) (.k (.bool true)) (.t 22), none⟩,
    ⟨some 24, .mv (.t 23), none⟩,
    ⟨some 25, .mv (.t 4), some (24, false)⟩,
    ⟨some 26, .bin .eql (.t 25) (.k (.int .u8 40)), some (24, false)⟩,
    ⟨some 27, .pick (.t 24) (.k (.bool true)) (.t 26), none⟩,
    ⟨some 28, .mv (.t 27), none⟩,
    ⟨some 29, .mv (.t 4), some (28, false)⟩,
    ⟨some 30, .bin .eql (.t 29) (.k (.int .u8 41)), some (28, false)⟩,
    ⟨some 31, .pick (.t 28) (.k (.bool true)) (.t 30), none⟩,
    ⟨some 32, .mv (.t 31), none⟩,
    ⟨some 33, .mv (.t 4), some (32, false)⟩,
    ⟨some 34, .bin .eql (.t 33) (.k (.int .u8 123)), some (32, false)⟩,
    ⟨some 35, .pick (.t 32) (.k (.bool true)) (.t 34), none⟩,
    ⟨some 36, .mv (.t 35), none⟩,
    ⟨some 37, .mv (.t 4), some (36, false)⟩,
    ⟨some 38, .bin .eql (.t 37) (.k (.int .u8 125)), some (36, false)⟩,
    ⟨some 39, .pick (.t 36) (.k (.bool true)) (.t 38), none⟩,
    ⟨some 40, .mv (.t 39), none⟩,
    ⟨some 41, .mv (.t 4), some (40, false)⟩,
    ⟨some 42, .bin .eql (.t 41) (.k (.int .u8 92)), some (40, false)⟩,
    ⟨some 43, .pick (.t 40) (.k (.bool true)) (.t 42), none⟩] [0, 3, 43] [])
  (.cond (.t 43) (.seq (.reg [⟨some 2, .mv (.k (.bool false)), none⟩] [2] [])
  (.ret)) (.skip)))))
  (.reg [⟨some 9, .mv (.t 3), none⟩,
    ⟨some 10, .bin .add (.t 9) (.k (.int .i64 1)), none⟩,
    ⟨some 3, .mv (.t 10), none⟩] [0, 3] []))
def spec_AtomOk.b : C := .seq (.reg [⟨some 2, .mv (.k (.bool false)), none⟩] [0] [])
  (.seq (.seq (.reg [⟨some 3, .mv (.k (.int .i64 0)), none⟩] [0, 3] [])
  (.block 0 (.loop spec_AtomOk.l0)))
  (.seq (.reg [⟨some 44, .mv (.t 0), none⟩,
    ⟨some 45, .slen (.t 44), none⟩,
    ⟨some 46, .call 98 [.t 45, .k (.int .i64 1), .k (.int .i64 40)] [] [], none⟩,
    ⟨some 2, .mv (.t 46), none⟩] [2] [])
  (.ret)))
def spec_AtomOk.m : Fn := { np := 1, body := spec_AtomOk.b, res := [.tmp 2] }
def spec_AtomOk.k (M : Nat → Option Body) : Prop := M 325 = some (.code spec_AtomOk.m) ∧ spec_l01In.k M
def impl_isAtom.b : C := .seq (.reg [⟨some 2, .mv (.k (.bool false)), none⟩] [0] [])
  (.seq (.reg [⟨some 3, .mv (.t 0), none⟩,
    ⟨some 4, .bin .geq (.t 3) (.k (.int .u8 33)), none⟩,
    ⟨some 5, .mv (.t 4), none⟩,
    ⟨some 6, .mv (.t 0), some (5, true)⟩,
    ⟨some 7, .bin .leq (.t 6) (.k (.int .u8 126)), some (5, true)⟩,
    ⟨some 8, .pick (.t 5) (.t 7) (.k (.bool false)), none⟩,
    ⟨some 9, .mv (.t 8), none⟩,
    ⟨some 10, .mv (.t 0), some (9, true)⟩,
    ⟨some 11, .i2i .i32 (.t 10), some (9, true)⟩,
    ⟨some 12, .call 290 [.k (.str ⟨#[34, 40, 41, 123, 125, 92]⟩), .t 11] [] [], some (9, true)⟩,
    ⟨some 13, .not (.t 12), some (9, true)⟩,
    ⟨some 14, .pick (.t 9) (.t 13) (.k (.bool false)), none⟩,
    ⟨some 2, .mv (.t 14), none⟩] [2] [])
  (.ret))
def impl_isAtom.m : Fn := { np := 1, body := impl_isAtom.b, res := [.tmp 2] }
def impl_isAtom.k (M : Nat → Option Body) : Prop := M 256 = some (.code impl_isAtom.m) ∧ M 290 = some (.ext (extG strings_ContainsRune.g))
def impl_AtomOk.l0 : C := .seq (.seq (.reg [⟨some 4, .mv (.t 3), none⟩,
    ⟨some 5, .mv (.t 0), none⟩,
    ⟨some 6, .slen (.t 5), none⟩,
    ⟨some 7, .bin .lss (.t 4) (.t 6), none⟩] [0, 3, 7] [])
  (.cond (.t 7) (.skip) (.exit 0)))
  (.seq (.block 1 (.seq (.reg [⟨some 10, .mv (.t 0), none⟩,
    ⟨some 11, .mv (.t 3), none⟩,
    ⟨some 12, .idx (.t 10) (.t 11), none⟩,
    ⟨some 13, .call 256 [.t 12] [] [], none⟩,
    ⟨some 14, .not (.t 13), none⟩] [0, 3, 14] [])
  (.cond (.t 14) (.seq (.reg [⟨some 2, .mv (.k (.bool false)), none⟩] [2] [])
  (.ret)) (.skip))))
  (.reg [⟨some 8, .mv (.t 3), none⟩,
    ⟨some 9, .bin .add (.t 8) (.k (.int .i64 1)), none⟩,
    ⟨some 3, .mv (.t 9), none⟩] [0, 3] []))
def impl_AtomOk.b : C := .seq (.reg [⟨some 2, .mv (.k (.bool false)), none⟩] [0] [])
  (.seq (.seq (.reg [⟨some 3, .mv (.k (.int .i64 0)), none⟩] [0, 3] [])
  (.block 0 (.loop impl_AtomOk.l0)))
  (.seq (.reg [⟨some 15, .mv (.t 0), none⟩,
    ⟨some 16, .slen (.t 15), none⟩,
    ⟨some 17, .call 101 [.t 16, .k (.int .i64 1), .k (.int .i64 40)] [] [], none⟩,
    ⟨some 2, .mv (.t 17), none⟩] [2] [])
  (.ret)))
def impl_AtomOk.m : Fn := { np := 1, body := impl_AtomOk.b, res := [.tmp 2] }
def impl_AtomOk.k (M : Nat → Option Body) : Prop := M 339 = some (.code impl_AtomOk.m) ∧ impl_within.k M ∧ impl_isAtom.k M
def laws_FnExactAtomOk.b : C := .seq (.reg [⟨some 2, .mv (.k (.bool false)), none⟩] [0] [])
  (.seq (.seq (.reg [⟨some 5, .mv (.t 0), none⟩,
    ⟨some 6, .slen (.t 5), none⟩,
    ⟨some 7, .bin .gtr (.t 6) (.k (.int .i64 1048576)), none⟩] [0, 7] [])
  (.cond (.t 7) (.seq (.reg [⟨some 2, .mv (.k (.bool true)), none⟩] [2] [])
  (.ret)) (.skip)))
  (.seq (.reg [⟨some 8, .mv (.t 0), none⟩,
    ⟨some 9, .call 325 [.t 8] [] [], none⟩,
    ⟨some 3, .mv (.t 9), none⟩] [0, 3] [])
  (.seq (.reg [⟨some 10, .mv (.t 0), none⟩,
    ⟨some 11, .call 339 [.t 10] [] [], none⟩,
    ⟨some 4, .mv (.t 11), none⟩] [3, 4] [])
  (.seq (.seq (.reg [⟨some 12, .mv (.t 4), none⟩,
    ⟨some 13, .mv (.t 3), none⟩,
    ⟨some 14, .beq true (.t 12) (.t 13), none⟩] [14] [])
  (.cond (.t 14) (.seq (.reg [⟨some 2, .mv (.k (.bool false)), none⟩] [2] [])
  (.ret)) (.skip)))
  (.seq (.reg [⟨some 2, .mv (.k (.bool true)), none⟩] [2] [])
  (.ret))))))
def laws_FnExactAtomOk.m : Fn := { np := 1, body := laws_FnExactAtomOk.b, res := [.tmp 2] }
def laws_FnExactAtomOk.k (M : Nat → Option Body) : Prop := M 354 = some (.code laws_FnExactAtomOk.m) ∧ spec_AtomOk.k M ∧ impl_AtomOk.k M
end Mx

/-
  What AtomOk answers.
-/
namespace Mx
open Go
variable {M : Nat → Option Body}
theorem impl_within.says (h : impl_within.k M) (n a b : Int) : run M 101 [.c (I n), .c (I a), .c (I b)] [] = some (.c (.bool (decide (a ≤ n) && decide (n ≤ b))), []) := by
  refine run_code (b := impl_within.m) h ⟨0, ?_⟩
  by_cases h : a ≤ n
  · have h' : n ≥ a := h
    simp [exB, impl_within.m, impl_within.b, List.range_succ, h]
  · have h' : ¬ n ≥ a := h
    simp [exB, impl_within.m, impl_within.b, List.range_succ, h]
theorem spec_l01In.says (h : spec_l01In.k M) (n a b : Int) : run M 98 [.c (I n), .c (I a), .c (I b)] [] = some (.c (.bool (decide (a ≤ n) && decide (n ≤ b))), []) := by
  refine run_code (b := spec_l01In.m) h ⟨0, ?_⟩
  by_cases h : a ≤ n
  · have h' : n ≥ a := h
    simp [exB, spec_l01In.m, spec_l01In.b, List.range_succ, h]
  · have h' : ¬ n ≥ a := h
    simp [exB, spec_l01In.m, spec_l01In.b, List.range_succ, h]

def atomB (n : Int) : Bool := !(decide (n < 33) || decide (126 < n) || decide (n = 34) || decide (n = 40) || decide (n = 41) || decide (n = 123) || decide (n = 125) || decide (n = 92))
def atomOk (l : List UInt8) : Bool := l.all (fun b => atomB b.toNat) && (decide (1 ≤ (l.length : Int)) && decide ((l.length : Int) ≤ 40))
def spAt (l : List UInt8) (i : Nat) (x : Nat) : St := { t := [(0, .c (S l)), (3, .c (I i))], o := [], n := x }
theorem spec_AtomOk.round (cf : CallF) (k : Nat) (l : List UInt8) (hl : l.length ≤ 1048576) (i : Nat) (hi : i < l.length) (x : Nat) :
    if atomB l[i].toNat then ∃ y, exC cf k spec_AtomOk.l0 (spAt l i x) = some (.normal, spAt l (i + 1) y) else ∃ y, exC cf k spec_AtomOk.l0 (spAt l i x) = some (.ret, { t := [(2, .c (.bool false))], o := [], n := y }) := by
  have e5 : IntKind.i64.wrap ((i : Int) + 1) = (i : Int) + 1 := wrap_i64 (by omega) (by omega)
  by_cases h1 : (l[i].toNat : Int) < 33
  · simp [spAt, spec_AtomOk.l0, hi, bs_get, atomB, h1]
  by_cases h2 : 126 < (l[i].toNat : Int)
  · simp [spAt, spec_AtomOk.l0, hi, bs_get, atomB, h1, h2]
  by_cases h3 : (l[i].toNat : Int) = 34
  · simp [spAt, spec_AtomOk.l0, hi, bs_get, atomB, h1, h2, h3]
  by_cases h4 : (l[i].toNat : Int) = 40
  · simp [spAt, spec_AtomOk.l0, hi, bs_get, atomB, h1, h2, h3, h4]
  by_cases h5 : (l[i].toNat : Int) = 41
  · simp [spAt, spec_AtomOk.l0, hi, bs_get, atomB, h1, h2, h3, h4, h5]
  by_cases h6 : (l[i].toNat : Int) = 123
  · simp [spAt, spec_AtomOk.l0, hi, bs_get, atomB, h1, h2, h3, h4, h5, h6]
  by_cases h7 : (l[i].toNat : Int) = 125
  · simp [spAt, spec_AtomOk.l0, hi, bs_get, atomB, h1, h2, h3, h4, h5, h6, h7]
  by_cases h8 : (l[i].toNat : Int) = 92
  · simp [spAt, spec_AtomOk.l0, hi, bs_get, atomB, h1, h2, h3, h4, h5, h6, h7, h8]
  simp [spAt, spec_AtomOk.l0, hi, bs_get, atomB, e5, h1, h2, h3, h4, h5, h6, h7, h8]

theorem spec_AtomOk.says (h : spec_AtomOk.k M) (l : List UInt8) (hl : l.length ≤ 1048576) : run M 325 [.c (S l)] [] = some (.c (.bool (atomOk l)), []) := by
  have hw := spec_l01In.says h.2 l.length 1 40
  refine run_code (b := spec_AtomOk.m) h.1 ⟨l.length + 1, ?_⟩
  obtain ⟨g, hr⟩ := loop_all (f := exC (run M) (l.length + 1) spec_AtomOk.l0) (spAt l) (fun i => i ≤ l.length) (fun i => l.length - i) (fun i => (l.drop i).all (fun b => atomB b.toNat))
    (fun q m => if q = true then (.exit 0, { t := [(0, .c (S l)), (3, .c (I l.length)), (8, .c (.bool false))], o := [], n := m }) else (.ret, { t := [(2, .c (.bool false))], o := [], n := m }))
    (by
      intro i x hi
      by_cases hlt : i < l.length
      · have hr := spec_AtomOk.round (run M) (l.length + 1) l hl i hlt x
        rw [List.drop_eq_getElem_cons hlt, List.all_cons]
        cases ha : atomB l[i].toNat with
        | true =>
          rw [ha, if_pos rfl] at hr
          obtain ⟨y, hy⟩ := hr
          exact .inl ⟨i + 1, y, hy, hlt, by omega, by simp⟩
        | false =>
          rw [ha, if_neg (by simp)] at hr
          obtain ⟨y, hy⟩ := hr
          exact .inr ⟨y, by rw [hy]; simp, by simp⟩
      · have : i = l.length := by omega
        subst this
        exact .inr ⟨x + 64, by simp [spAt, spec_AtomOk.l0], by simp⟩)
    (l.length + 1) 0 (Nat.zero_le _) (by omega)
  simp only [List.drop_zero] at hr
  cases ha : l.all (fun b => atomB b.toNat) with
  | true =>
    simp [spAt, ha, -List.all_eq_true] at hr
    simp [exB, spec_AtomOk.m, spec_AtomOk.b, List.range_succ, hr, hw, atomOk, ha]
  | false =>
    simp [spAt, ha, -List.all_eq_true] at hr
    simp [exB, spec_AtomOk.m, spec_AtomOk.b, List.range_succ, hr, atomOk, ha]

theorem index_atoms (n : Int) (h0 : 0 ≤ n) (h1 : n < 128) : (decide (0 ≤ Lib.indexByte [34, 40, 41, 123, 125, 92] n.toNat.toUInt8)) = (decide (n = 34) || decide (n = 40) || decide (n = 41) || decide (n = 123) || decide (n = 125) || decide (n = 92)) := by
  obtain ⟨k, rfl⟩ := Int.eq_ofNat_of_zero_le h0
  have h2 : k < 128 := by omega
  have : ∀ k : Nat, k < 128 → (decide (0 ≤ Lib.indexByte [34, 40, 41, 123, 125, 92] ((k : Int).toNat.toUInt8))) = (decide ((k : Int) = 34) || decide ((k : Int) = 40) || decide ((k : Int) = 41) || decide ((k : Int) = 123) || decide ((k : Int) = 125) || decide ((k : Int) = 92)) := by decide +kernel
  exact this k h2
theorem impl_isAtom.says (h : impl_isAtom.k M) (b : UInt8) : run M 256 [.c (U8 b.toNat)] [] = some (.c (.bool (atomB b.toNat)), []) := by
  refine run_code (b := impl_isAtom.m) h.1 ⟨0, ?_⟩
  by_cases h1 : (b.toNat : Int) < 33
  · have h1' : ¬ 33 ≤ (b.toNat : Int) := by omega
    simp [exB, impl_isAtom.m, impl_isAtom.b, List.range_succ, h1, h1', atomB]
  by_cases h2 : 126 < (b.toNat : Int)
  · have h1' : 33 ≤ (b.toNat : Int) := by omega
    have h2' : ¬ (b.toNat : Int) ≤ 126 := by omega
    simp [exB, impl_isAtom.m, impl_isAtom.b, List.range_succ, h1, h1', h2, h2', atomB]
  have h1' : 33 ≤ (b.toNat : Int) := by omega
  have h2' : (b.toNat : Int) ≤ 126 := by omega
  have e1 : IntKind.i32.wrap (b.toNat : Int) = (b.toNat : Int) := by
    unfold IntKind.wrap; simp [IntKind.bits, IntKind.signed] <;> omega
  have e2 := run_ext_plain h.2 (ts := [.str ⟨#[34, 40, 41, 123, 125, 92]⟩, .int .i32 b.toNat]) (r := .bool (decide (0 ≤ Lib.indexByte [34, 40, 41, 123, 125, 92] (b.toNat : Int).toNat.toUInt8)))
    (by simp only [strings_ContainsRune.g]; rw [if_pos ⟨by omega, by omega⟩])
  rw [index_atoms _ (by omega) (by omega)] at e2
  simp only [List.map_cons, List.map_nil] at e2
  simp [exB, impl_isAtom.m, impl_isAtom.b, List.range_succ, h1, h1', h2, h2', e1, e2, atomB]

theorem impl_AtomOk.says (h : impl_AtomOk.k M) (l : List UInt8) (hl : l.length ≤ 1048576) : run M 339 [.c (S l)] [] = some (.c (.bool (atomOk l)), []) := by
  have hw := impl_within.says h.2.1 l.length 1 40
  refine run_code (b := impl_AtomOk.m) h.1 ⟨l.length + 1, ?_⟩
  obtain ⟨g, hr⟩ := loop_all (f := exC (run M) (l.length + 1) impl_AtomOk.l0) (spAt l) (fun i => i ≤ l.length) (fun i => l.length - i) (fun i => (l.drop i).all (fun b => atomB b.toNat))
    (fun q m => if q = true then (.exit 0, { t := [(0, .c (S l)), (3, .c (I l.length)), (7, .c (.bool false))], o := [], n := m }) else (.ret, { t := [(2, .c (.bool false))], o := [], n := m }))
    (by
      intro i x hi
      by_cases hlt : i < l.length
      · have ha' := impl_isAtom.says h.2.2 l[i]
        have e5 : IntKind.i64.wrap ((i : Int) + 1) = (i : Int) + 1 := wrap_i64 (by omega) (by omega)
        rw [List.drop_eq_getElem_cons hlt, List.all_cons]
        cases ha : atomB l[i].toNat with
        | true =>
          rw [ha] at ha'
          obtain ⟨y, hy⟩ : ∃ y, exC (run M) (l.length + 1) impl_AtomOk.l0 (spAt l i x) = some (.normal, spAt l (i + 1) y) := by simp [spAt, impl_AtomOk.l0, hlt, bs_get, ha', e5]
          exact .inl ⟨i + 1, y, hy, hlt, by omega, by simp⟩
        | false =>
          rw [ha] at ha'
          obtain ⟨y, hy⟩ : ∃ y, exC (run M) (l.length + 1) impl_AtomOk.l0 (spAt l i x) = some (.ret, { t := [(2, .c (.bool false))], o := [], n := y }) := by simp [spAt, impl_AtomOk.l0, hlt, bs_get, ha']
          exact .inr ⟨y, by rw [hy]; simp, by simp⟩
      · have : i = l.length := by omega
        subst this
        exact .inr ⟨x + 64, by simp [spAt, impl_AtomOk.l0], by simp⟩)
    (l.length + 1) 0 (Nat.zero_le _) (by omega)
  simp only [List.drop_zero] at hr
  cases ha : l.all (fun b => atomB b.toNat) with
  | true =>
    simp [spAt, ha, -List.all_eq_true] at hr
    simp [exB, impl_AtomOk.m, impl_AtomOk.b, List.range_succ, hr, hw, atomOk, ha]
  | false =>
    simp [spAt, ha, -List.all_eq_true] at hr
    simp [exB, impl_AtomOk.m, impl_AtomOk.b, List.range_succ, hr, atomOk, ha]

theorem laws_FnExactAtomOk.says (h : laws_FnExactAtomOk.k M) (l : List UInt8) : run M 354 [.c (S l)] [] = some (.c (.bool true), []) := by
  refine run_code (b := laws_FnExactAtomOk.m) h.1 ⟨0, ?_⟩
  by_cases hc : (1048576 : Int) < l.length
  · simp [exB, laws_FnExactAtomOk.m, laws_FnExactAtomOk.b, List.range_succ, hc]
  · have h1 := spec_AtomOk.says h.2.1 l (by omega)
    have h2 := impl_AtomOk.says h.2.2 l (by omega)
    simp [exB, laws_FnExactAtomOk.m, laws_FnExactAtomOk.b, List.range_succ, hc, h1, h2]
theorem laws_FnExactAtomOk.row (h : laws_FnExactAtomOk.k M) {as : List V} (ha : HasVs [.cell .str] as) : run M 354 as [] = some (.c (.bool true), []) := by
  cases ha with | cons h0 ha =>
  cases ha
  cases h0 with | cell h0 =>
  cases h0 with | str s hs =>
  obtain ⟨l, rfl⟩ := of_bytes s
  exact laws_FnExactAtomOk.says h l
end Mx
