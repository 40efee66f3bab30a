/-
  Small codes: spec.QuoteText, impl.QuoteText.
-/
import Derived.Test.YteeddgnjannecaaMxB
namespace Mx
open Go
def spec_QuoteText.l0 : C := .seq (.seq (.reg [⟨some 6, .mv (.t 5), none⟩,
    ⟨some 7, .mv (.t 0), none⟩,
    ⟨some 8, .slen (.t 7), none⟩,
    ⟨some 9, .bin .lss (.t 6) (.t 8), none⟩] [0, 4, 5, 9] [])
  (.cond (.t 9) (.skip) (.exit 0)))
  (.seq (.block 1 (.seq (.seq (.reg [⟨some 12, .mv (.t 0), none⟩,
    ⟨some 13, .mv (.t 5), none⟩,
    ⟨some 14, .idx (.t 12) (.t 13), none⟩,
    ⟨some 15, .bin .lss (.t 14) (.k (.int .u8 32)), none⟩,
    ⟨some 16, .mv (.t 15), none⟩,
    ⟨some 17, .mv (.t 0), some (16, false)⟩,
    ⟨some 18, .mv (.t 5), some (16, false)⟩,
    ⟨some 19, .idx (.t 17) (.t 18), some (16, false)⟩,
    ⟨some 20, .bin .gtr (.t 19) (.k (.int .u8 126)), some (16, false)⟩,
    ⟨some 21, .pick (.t 16) (.k (.bool true)) (.t 20), none⟩] [0, 4, 5, 21] [])
  (.cond (.t 21) (.seq (.reg [⟨some 2, .mv (.k (.str ⟨#[]⟩)), none⟩,
    ⟨some 3, .mv (.k (.bool false)), none⟩] [2, 3] [])
  (.ret)) (.skip)))
  (.seq (.seq (.reg [⟨some 22, .mv (.t 0), none⟩,
    ⟨some 23, .mv (.t 5), none⟩,
    ⟨some 24, .idx (.t 22) (.t 23), none⟩,
    ⟨some 25, .bin .eql (.t 24) (.k (.int .u8 34)), none⟩,
    ⟨some 26, .mv (.t 25), none⟩,
    ⟨some 27, .mv (.t 0), some (26, false)⟩,
    ⟨some 28, .mv (.t 5), some (26, false)⟩,
    ⟨some 29, .idx (.t 27) (.t 28), some (26, false)⟩,
    ⟨some 30, .bin .eql (.t 29) (.k (.int .u8 92)), some (26, false)⟩,
    ⟨some 31, .pick (.t 26) (.k (.bool true)) (.t 30), none⟩] [0, 4, 5, 31] [])
  (.cond (.t 31) (.reg [⟨some 32, .mv (.t 4), none⟩,
    ⟨some 33, .bin .add (.t 32) (.k (.str ⟨#[92]⟩)), none⟩,
    ⟨some 4, .mv (.t 33), none⟩] [0, 4, 5] []) (.skip)))
  (.reg [⟨some 34, .mv (.t 4), none⟩,
    ⟨some 35, .mv (.t 0), none⟩,
    ⟨some 36, .mv (.t 5), none⟩,
    ⟨some 37, .mv (.t 5), none⟩,
    ⟨some 38, .bin .add (.t 37) (.k (.int .i64 1)), none⟩,
    ⟨some 39, .sstr (.t 35) (some (.t 36)) (some (.t 38)), none⟩,
    ⟨some 40, .bin .add (.t 34) (.t 39), none⟩,
    ⟨some 4, .mv (.t 40), none⟩] [0, 4, 5] []))))
  (.reg [⟨some 10, .mv (.t 5), none⟩,
    ⟨some 11, .bin .add (.t 10) (.k (.int .i64 1)), none⟩,
    ⟨some 5, .mv (.t 11), none⟩] [0, 4, 5] []))
def spec_QuoteText.b : C := .seq (.reg [⟨some 2, .mv (.k (.str ⟨#[]⟩)), none⟩,
    ⟨some 3, .mv (.k (.bool false)), none⟩] [0] [])
  (.seq (.reg [⟨some 4, .mv (.k (.str ⟨#[34]⟩)), none⟩] [0, 4] [])
  (.seq (.seq (.reg [⟨some 5, .mv (.k (.int .i64 0)), none⟩] [0, 4, 5] [])
  (.block 0 (.loop spec_QuoteText.l0)))
  (.seq (.seq (.reg [⟨some 41, .mv (.t 0), none⟩,
    ⟨some 42, .slen (.t 41), none⟩,
    ⟨some 43, .bin .gtr (.t 42) (.k (.int .i64 60)), none⟩] [4, 43] [])
  (.cond (.t 43) (.seq (.reg [⟨some 2, .mv (.k (.str ⟨#[]⟩)), none⟩,
    ⟨some 3, .mv (.k (.bool false)), none⟩] [2, 3] [])
  (.ret)) (.skip)))
  (.seq (.reg [⟨some 44, .mv (.t 4), none⟩,
    ⟨some 45, .bin .add (.t 44) (.k (.str ⟨#[34]⟩)), none⟩,
    ⟨some 2, .mv (.t 45), none⟩,
    ⟨some 3, .mv (.k (.bool true)), none⟩] [2, 3] [])
  (.ret)))))
def spec_QuoteText.m : Fn := { np := 1, body := spec_QuoteText.b, res := [.tmp 2, .tmp 3] }
def spec_QuoteText.k (M : Nat → Option Body) : Prop := M 319 = some (.code spec_QuoteText.m)
def impl_QuoteText.l0 : C := .seq (.seq (.reg [⟨some 7, .mv (.t 5), none⟩,
    ⟨some 8, .mv (.t 0), none⟩,
    ⟨some 9, .slen (.t 8), none⟩,
    ⟨some 10, .bin .lss (.t 7) (.t 9), none⟩] [0, 4, 5, 10] [6, 35, 41])
  (.cond (.t 10) (.skip) (.exit 0)))
  (.seq (.block 1 (.seq (.seq (.reg [⟨some 13, .mv (.t 0), none⟩,
    ⟨some 14, .mv (.t 5), none⟩,
    ⟨some 15, .idx (.t 13) (.t 14), none⟩,
    ⟨some 16, .bin .lss (.t 15) (.k (.int .u8 32)), none⟩,
    ⟨some 17, .mv (.t 16), none⟩,
    ⟨some 18, .mv (.t 0), some (17, false)⟩,
    ⟨some 19, .mv (.t 5), some (17, false)⟩,
    ⟨some 20, .idx (.t 18) (.t 19), some (17, false)⟩,
    ⟨some 21, .bin .gtr (.t 20) (.k (.int .u8 126)), some (17, false)⟩,
    ⟨some 22, .pick (.t 17) (.k (.bool true)) (.t 21), none⟩] [0, 4, 5, 22] [6, 35, 41])
  (.cond (.t 22) (.seq (.reg [⟨some 2, .mv (.k (.str ⟨#[]⟩)), none⟩,
    ⟨some 3, .mv (.k (.bool false)), none⟩] [2, 3] [])
  (.ret)) (.skip)))
  (.seq (.seq (.reg [⟨some 23, .mv (.t 0), none⟩,
    ⟨some 24, .mv (.t 5), none⟩,
    ⟨some 25, .idx (.t 23) (.t 24), none⟩,
    ⟨some 26, .bin .eql (.t 25) (.k (.int .u8 34)), none⟩,
    ⟨some 27, .mv (.t 26), none⟩,
    ⟨some 28, .mv (.t 0), some (27, false)⟩,
    ⟨some 29, .mv (.t 5), some (27, false)⟩,
    ⟨some 30, .idx (.t 28) (.t 29), some (27, false)⟩,
    ⟨some 31, .bin .eql (.t 30) (.k (.int .u8 92)), some (27, false)⟩,
    ⟨some 32, .pick (.t 27) (.k (.bool true)) (.t 31), none⟩] [0, 4, 5, 32] [6, 35, 41])
  (.cond (.t 32) (.reg [⟨some 33, .mv (.t 4), none⟩,
    ⟨some 34, .bslice 1 1 [.int .u8 0] [(0, .k (.int .u8 92))], none⟩,
    ⟨some 35, .app 1 1 (.t 33) (.t 34), none⟩,
    ⟨some 4, .mv (.t 35), none⟩] [0, 4, 5] [6, 35, 41]) (.skip)))
  (.reg [⟨some 36, .mv (.t 4), none⟩,
    ⟨some 37, .mv (.t 0), none⟩,
    ⟨some 38, .mv (.t 5), none⟩,
    ⟨some 39, .idx (.t 37) (.t 38), none⟩,
    ⟨some 40, .bslice 1 1 [.int .u8 0] [(0, .t 39)], none⟩,
    ⟨some 41, .app 1 1 (.t 36) (.t 40), none⟩,
    ⟨some 4, .mv (.t 41), none⟩] [0, 4, 5] [6, 35, 41]))))
  (.reg [⟨some 11, .mv (.t 5), none⟩,
    ⟨some 12, .bin .add (.t 11) (.k (.int .i64 1)), none⟩,
    ⟨some 5, .mv (.t 12), none⟩] [0, 4, 5] [6, 35, 41]))
def impl_QuoteText.b : C := .seq (.reg [⟨some 2, .mv (.k (.str ⟨#[]⟩)), none⟩,
    ⟨some 3, .mv (.k (.bool false)), none⟩] [0] [])
  (.seq (.reg [⟨some 6, .bslice 1 1 [.int .u8 0] [(0, .k (.int .u8 34))], none⟩,
    ⟨some 4, .mv (.t 6), none⟩] [0, 4] [6, 35, 41])
  (.seq (.seq (.reg [⟨some 5, .mv (.k (.int .i64 0)), none⟩] [0, 4, 5] [6, 35, 41])
  (.block 0 (.loop impl_QuoteText.l0)))
  (.seq (.seq (.reg [⟨some 42, .mv (.t 0), none⟩,
    ⟨some 43, .slen (.t 42), none⟩,
    ⟨some 44, .bin .gtr (.t 43) (.k (.int .i64 60)), none⟩] [4, 44] [6, 35, 41])
  (.cond (.t 44) (.seq (.reg [⟨some 2, .mv (.k (.str ⟨#[]⟩)), none⟩,
    ⟨some 3, .mv (.k (.bool false)), none⟩] [2, 3] [])
  (.ret)) (.skip)))
  (.seq (.reg [⟨some 45, .mv (.t 4), none⟩,
    ⟨some 46, .bslice 1 1 [.int .u8 0] [(0, .k (.int .u8 34))], none⟩,
    ⟨some 47, .app 1 1 (.t 45) (.t 46), none⟩,
    ⟨some 48, .b2s (.t 47), none⟩,
    ⟨some 2, .mv (.t 48), none⟩,
    ⟨some 3, .mv (.k (.bool true)), none⟩] [2, 3] [])
  (.ret)))))
def impl_QuoteText.m : Fn := { np := 1, body := impl_QuoteText.b, res := [.tmp 2, .tmp 3] }
def impl_QuoteText.k (M : Nat → Option Body) : Prop := M 127 = some (.code impl_QuoteText.m)
end Mx

/-
  What the two QuoteText answer.
-/
namespace Mx
open Go
variable {M : Nat → Option Body}
def esc (b : UInt8) : List UInt8 := if b = 34 ∨ b = 92 then [92, b] else [b]
def escs (l : List UInt8) : List UInt8 := l.flatMap esc
theorem escs_len (l : List UInt8) : (escs l).length ≤ 2 * l.length := by
  induction l with
  | nil => simp [escs]
  | cons b l ih =>
    simp only [escs, List.flatMap_cons, List.length_append, List.length_cons] at ih ⊢
    have : (esc b).length ≤ 2 := by unfold esc; split <;> simp
    omega
theorem escs_take {l : List UInt8} {i : Nat} (hi : i < l.length) : escs (l.take (i + 1)) = escs (l.take i) ++ esc l[i] := by
  unfold escs; rw [List.take_succ_eq_append_getElem hi, List.flatMap_append]; simp

def spS (l : List UInt8) (i : Nat) (n : Nat) : St := { t := [(0, .c (S l)), (4, .c (S (34 :: escs (l.take i)))), (5, .c (I i))], o := [], n := n }

theorem sp_round (cf : CallF) (k : Nat) (l : List UInt8) (hl : l.length ≤ 1048576) (i : Nat) (hi : i < l.length) (h1 : ¬ l[i] < 32) (h2 : ¬ 126 < l[i]) (n : Nat) :
    ∃ n', exC cf k spec_QuoteText.l0 (spS l i n) = some (.normal, spS l (i + 1) n') := by
  have e1 : ¬ ((l[i].toNat : Int) < 32) := fun h => h1 ((u8_lt _ 32).1 h)
  have e2 : ¬ ((126 : Int) < (l[i].toNat : Int)) := fun h => h2 ((u8_lt 126 _).1 h)
  have e4 : IntKind.i64.wrap ((i : Int) + 1) = ((i + 1 : Nat) : Int) := wrap_i64 (by omega) (by omega)
  have e5 := take_drop1 l i hi
  have e6 := escs_take hi
  have hz := escs_len (l.take i)
  rw [List.length_take] at hz
  have p1 : (0 : Int) ≤ (i : Int) + 1 := by omega
  have p2 : i + 1 ≤ l.length := by omega
  by_cases h34 : l[i] = 34
  · have e7 : esc 34 = [92, 34] := rfl
    simp (disch := (first | omega | (simp; done) | (simp; omega))) [spS, spec_QuoteText.l0, hi, bs_get, e1, e2, h34, e4, e5, e6, p1, p2, e7]
  · by_cases h92 : l[i] = 92
    · have e7 : esc 92 = [92, 92] := rfl
      simp (disch := (first | omega | (simp; done) | (simp; omega))) [spS, spec_QuoteText.l0, hi, bs_get, e1, e2, h92, e4, e5, e6, p1, p2, e7]
    · have e7 : esc l[i] = [l[i]] := by simp [esc, h34, h92]
      have f1 : ¬ ((l[i].toNat : Int) = 34) := fun h => h34 ((u8_eq _ 34).1 h)
      have f2 : ¬ ((l[i].toNat : Int) = 92) := fun h => h92 ((u8_eq _ 92).1 h)
      have g1 : ¬ (l[i].toNat = 34) := by omega
      have g2 : ¬ (l[i].toNat = 92) := by omega
      simp (disch := (first | omega | (simp; done) | (simp; omega))) [spS, spec_QuoteText.l0, hi, bs_get, e1, e2, f1, f2, g1, g2, e4, e5, e6, p1, p2, e7]

def imS (l : List UInt8) (i : Nat) (x : Nat × Nat) : St := { t := [(0, .c (S l)), (4, .c (.row 6 x.2 0 (34 :: escs (l.take i)).length)), (5, .c (I i))], o := [(6, ⟨x.2, 1, true, false, brow (34 :: escs (l.take i))⟩)], n := x.1 }

theorem im_round (cf : CallF) (k : Nat) (l : List UInt8) (hl : l.length ≤ 1048576) (i : Nat) (hi : i < l.length) (h1 : ¬ l[i] < 32) (h2 : ¬ 126 < l[i]) (x : Nat × Nat) :
    ∃ y, exC cf k impl_QuoteText.l0 (imS l i x) = some (.normal, imS l (i + 1) y) := by
  have e1 : ¬ ((l[i].toNat : Int) < 32) := fun h => h1 ((u8_lt _ 32).1 h)
  have e2 : ¬ ((126 : Int) < (l[i].toNat : Int)) := fun h => h2 ((u8_lt 126 _).1 h)
  have e4 : IntKind.i64.wrap ((i : Int) + 1) = ((i + 1 : Nat) : Int) := wrap_i64 (by omega) (by omega)
  have e6 := escs_take hi
  have hz := escs_len (l.take i)
  rw [List.length_take] at hz
  by_cases h34 : l[i] = 34
  · have e7 : esc 34 = [92, 34] := rfl
    have e8 : [[T.int .u8 92]] = brow [92] := rfl
    have e9 : [[T.int .u8 34]] = brow [34] := rfl
    simp (disch := (first | omega | (simp; done) | (simp; omega))) [imS, impl_QuoteText.l0, hi, bs_get, e1, e2, h34, e4, e6, e7, e8, e9, ite_le, List.take_of_length_le, Prod.exists]
  · by_cases h92 : l[i] = 92
    · have e7 : esc 92 = [92, 92] := rfl
      have e8 : [[T.int .u8 92]] = brow [92] := rfl
      simp (disch := (first | omega | (simp; done) | (simp; omega))) [imS, impl_QuoteText.l0, hi, bs_get, e1, e2, h92, e4, e6, e7, e8, ite_le, List.take_of_length_le, Prod.exists]
    · have e7 : esc l[i] = [l[i]] := by simp [esc, h34, h92]
      have f1 : ¬ ((l[i].toNat : Int) = 34) := fun h => h34 ((u8_eq _ 34).1 h)
      have f2 : ¬ ((l[i].toNat : Int) = 92) := fun h => h92 ((u8_eq _ 92).1 h)
      have e8 : [[T.int .u8 (l[i].toNat : Int)]] = brow [l[i]] := rfl
      simp (disch := (first | omega | (simp; done) | (simp; omega))) [imS, impl_QuoteText.l0, hi, bs_get, e1, e2, f1, f2, e4, e6, e7, e8, ite_le, List.take_of_length_le, Prod.exists]

def bad (b : UInt8) : Bool := decide (b < 32) || decide (126 < b)
def quoted (l : List UInt8) : List UInt8 × Bool := if l.any bad then ([], false) else if 60 < l.length then ([], false) else (34 :: (escs l ++ [34]), true)

theorem bad_split (l : List UInt8) : ∃ n, n ≤ l.length ∧ (∀ i (h : i < l.length), i < n → ¬ l[i] < 32 ∧ ¬ 126 < l[i]) ∧ ((n = l.length ∧ l.any bad = false) ∨ (∃ h : n < l.length, (l[n] < 32 ∨ 126 < l[n]) ∧ l.any bad = true)) := by
  induction l with
  | nil => exact ⟨0, Nat.le_refl _, fun i h => by simp at h, .inl ⟨rfl, rfl⟩⟩
  | cons b l ih =>
    by_cases hb : b < 32 ∨ 126 < b
    · exact ⟨0, by simp, fun i _ h => by omega, .inr ⟨by simp, hb, by simp [bad]; exact .inl hb⟩⟩
    · obtain ⟨n, h1, h2, h3⟩ := ih
      refine ⟨n + 1, by simpa using h1, ?_, ?_⟩
      · intro i h hi
        cases i with
        | zero => simp; exact ⟨by simpa using fun q => hb (.inl q), by simpa using fun q => hb (.inr q)⟩
        | succ i => simpa using h2 i (by simpa using h) (by omega)
      · rcases h3 with ⟨rfl, h⟩ | ⟨h, q1, q2⟩
        · left; refine ⟨rfl, ?_⟩
          have : bad b = false := by simp [bad]; exact ⟨by simpa using fun q => hb (.inl q), by simpa using fun q => hb (.inr q)⟩
          simp [List.any_cons, this]; simpa using h
        · right; exact ⟨by simpa using h, by simpa using q1, by simp [List.any_cons]; right; simpa using q2⟩

theorem spec_QuoteText.says (h : spec_QuoteText.k M) (l : List UInt8) (hl : l.length ≤ 1048576) : run M 319 [.c (S l)] [] = some (.tup [.c (S (quoted l).1), .c (.bool (quoted l).2)], []) := by
  obtain ⟨n, hn, hgood, hend⟩ := bad_split l
  have hz := escs_len l
  refine run_code (b := spec_QuoteText.m) h ⟨n + 1, ?_⟩
  obtain ⟨r, hr, hp⟩ := loop_inv (f := exC (run M) (n + 1) spec_QuoteText.l0) (spS l) (fun r => if l.any bad then ∃ m, r = (.ret, { t := [(2, .c (S [])), (3, .c (.bool false))], o := [], n := m }) else ∃ m, r = (.exit 0, { t := [(0, .c (S l)), (4, .c (S (34 :: escs l))), (5, .c (I l.length)), (9, .c (.bool false))], o := [], n := m })) n
    (fun i hi x => sp_round _ _ l hl i (by omega) (hgood i (by omega) hi).1 (hgood i (by omega) hi).2 x)
    (by
      intro x
      rcases hend with ⟨rfl, h⟩ | ⟨h1, h2, h3⟩
      · simp [spS, spec_QuoteText.l0, h]
      · rcases h2 with h2 | h2
        · have e1 : ((l[n].toNat : Int) < 32) := (u8_lt _ 32).2 h2
          simp [spS, spec_QuoteText.l0, h1, h3, bs_get, e1]
        · have e1 : ((126 : Int) < (l[n].toNat : Int)) := (u8_lt 126 _).2 h2
          have e2 : ¬ ((l[n].toNat : Int) < 32) := by omega
          simp [spS, spec_QuoteText.l0, h1, h3, bs_get, e1, e2])
    (n + 1) (by omega) 65
  simp [spS, escs] at hr
  cases hb : l.any bad with
  | true =>
    rw [hb, if_pos rfl] at hp
    obtain ⟨m, rfl⟩ := hp
    simp [exB, spec_QuoteText.m, spec_QuoteText.b, List.range_succ, hr, quoted, hb]
  | false =>
    rw [hb, if_neg (by simp)] at hp
    obtain ⟨m, rfl⟩ := hp
    by_cases h60 : 60 < l.length
    · have e1 : (60 : Int) < (l.length : Int) := by omega
      simp [exB, spec_QuoteText.m, spec_QuoteText.b, List.range_succ, hr, quoted, hb, h60, e1]
    · have e1 : ¬ (60 : Int) < (l.length : Int) := by omega
      simp (disch := (first | omega | (simp; done) | (simp; omega))) [exB, spec_QuoteText.m, spec_QuoteText.b, List.range_succ, hr, quoted, hb, h60, e1]

theorem impl_QuoteText.says (h : impl_QuoteText.k M) (l : List UInt8) (hl : l.length ≤ 1048576) : run M 127 [.c (S l)] [] = some (.tup [.c (S (quoted l).1), .c (.bool (quoted l).2)], []) := by
  obtain ⟨n, hn, hgood, hend⟩ := bad_split l
  have hz := escs_len l
  refine run_code (b := impl_QuoteText.m) h ⟨n + 1, ?_⟩
  obtain ⟨r, hr, hp⟩ := loop_inv (f := exC (run M) (n + 1) impl_QuoteText.l0) (imS l) (fun r => if l.any bad then ∃ m, r = (.ret, { t := [(2, .c (S [])), (3, .c (.bool false))], o := [], n := m }) else ∃ v m, r = (.exit 0, { t := [(0, .c (S l)), (4, .c (.row 6 v 0 ((escs l).length + 1))), (5, .c (I l.length)), (10, .c (.bool false))], o := [(6, ⟨v, 1, true, false, brow (34 :: escs l)⟩)], n := m })) n
    (fun i hi x => im_round _ _ l hl i (by omega) (hgood i (by omega) hi).1 (hgood i (by omega) hi).2 x)
    (by
      intro x
      rcases hend with ⟨rfl, h⟩ | ⟨h1, h2, h3⟩
      · simp [imS, impl_QuoteText.l0, h]
      · rcases h2 with h2 | h2
        · have e1 : ((l[n].toNat : Int) < 32) := (u8_lt _ 32).2 h2
          simp [imS, impl_QuoteText.l0, h1, h3, bs_get, e1]
        · have e1 : ((126 : Int) < (l[n].toNat : Int)) := (u8_lt 126 _).2 h2
          have e2 : ¬ ((l[n].toNat : Int) < 32) := by omega
          simp [imS, impl_QuoteText.l0, h1, h3, bs_get, e1, e2])
    (n + 1) (by omega) (81, 33)
  have e8 : [[T.int .u8 34]] = brow [34] := rfl
  simp [imS, escs] at hr
  cases hb : l.any bad with
  | true =>
    rw [hb, if_pos rfl] at hp
    obtain ⟨m, rfl⟩ := hp
    simp [exB, impl_QuoteText.m, impl_QuoteText.b, List.range_succ, e8, hr, quoted, hb]
  | false =>
    rw [hb, if_neg (by simp)] at hp
    obtain ⟨v, m, rfl⟩ := hp
    by_cases h60 : 60 < l.length
    · have e1 : (60 : Int) < (l.length : Int) := by omega
      simp [exB, impl_QuoteText.m, impl_QuoteText.b, List.range_succ, e8, hr, quoted, hb, h60, e1]
    · have e1 : ¬ (60 : Int) < (l.length : Int) := by omega
      simp (disch := (first | omega | (simp; done) | (simp; omega))) [exB, impl_QuoteText.m, impl_QuoteText.b, List.range_succ, hr, quoted, hb, h60, e1, ite_le, e8, List.take_of_length_le]

end Mx

/-
  Small codes: spec.l01Figure, spec.Decimal, impl.Decimal.
-/
namespace Mx
open Go
def spec_l01Figure.b : C := .seq (.reg [⟨some 2, .mv (.k (.int .u8 0)), none⟩] [0] [])
  (.seq (.seq (.reg [⟨some 3, .mv (.t 0), none⟩,
    ⟨some 4, .bin .lss (.t 3) (.k (.int .i64 10)), none⟩] [0, 4] [])
  (.cond (.t 4) (.seq (.reg [⟨some 5, .mv (.t 0), none⟩,
    ⟨some 6, .bin .add (.k (.int .i64 48)) (.t 5), none⟩,
    ⟨some 7, .i2i .u8 (.t 6), none⟩,
    ⟨some 2, .mv (.t 7), none⟩] [2] [])
  (.ret)) (.skip)))
  (.seq (.reg [⟨some 8, .mv (.t 0), none⟩,
    ⟨some 9, .bin .add (.k (.int .i64 97)) (.t 8), none⟩,
    ⟨some 10, .bin .sub (.t 9) (.k (.int .i64 10)), none⟩,
    ⟨some 11, .i2i .u8 (.t 10), none⟩,
    ⟨some 2, .mv (.t 11), none⟩] [2] [])
  (.ret)))
def spec_l01Figure.m : Fn := { np := 1, body := spec_l01Figure.b, res := [.tmp 2] }
def spec_l01Figure.k (M : Nat → Option Body) : Prop := M 247 = some (.code spec_l01Figure.m)
def spec_Decimal.l0 : C := .seq (.seq (.reg [⟨some 10, .mv (.t 0), none⟩,
    ⟨some 11, .bin .neq (.t 10) (.k (.int .i64 0)), none⟩] [0, 3, 4, 11] [])
  (.cond (.t 11) (.skip) (.exit 0)))
  (.block 1 (.seq (.reg [⟨some 12, .mv (.t 0), none⟩,
    ⟨some 13, .bin .rem (.t 12) (.k (.int .i64 10)), none⟩,
    ⟨some 5, .mv (.t 13), none⟩] [0, 3, 4, 5] [])
  (.seq (.seq (.reg [⟨some 14, .mv (.t 5), none⟩,
    ⟨some 15, .bin .lss (.t 14) (.k (.int .i64 0)), none⟩] [0, 3, 4, 5, 15] [])
  (.cond (.t 15) (.reg [⟨some 16, .mv (.t 5), none⟩,
    ⟨some 17, .neg (.t 16), none⟩,
    ⟨some 5, .mv (.t 17), none⟩] [0, 3, 4, 5] []) (.skip)))
  (.seq (.reg [⟨some 18, .mv (.t 5), none⟩,
    ⟨some 19, .call 247 [.t 18] [] [], none⟩,
    ⟨some 20, .bslice 1 1 [.int .u8 0] [(0, .t 19)], none⟩,
    ⟨some 21, .b2s (.t 20), none⟩,
    ⟨some 22, .mv (.t 4), none⟩,
    ⟨some 23, .bin .add (.t 21) (.t 22), none⟩,
    ⟨some 4, .mv (.t 23), none⟩] [0, 3, 4] [])
  (.reg [⟨some 24, .mv (.t 0), none⟩,
    ⟨some 25, .bin .quo (.t 24) (.k (.int .i64 10)), none⟩,
    ⟨some 0, .mv (.t 25), none⟩] [0, 3, 4] [])))))
def spec_Decimal.b : C := .seq (.reg [⟨some 2, .mv (.k (.str ⟨#[]⟩)), none⟩] [0] [])
  (.seq (.seq (.reg [⟨some 6, .mv (.t 0), none⟩,
    ⟨some 7, .bin .eql (.t 6) (.k (.int .i64 0)), none⟩] [0, 7] [])
  (.cond (.t 7) (.seq (.reg [⟨some 2, .mv (.k (.str ⟨#[48]⟩)), none⟩] [2] [])
  (.ret)) (.skip)))
  (.seq (.reg [⟨some 8, .mv (.t 0), none⟩,
    ⟨some 9, .bin .lss (.t 8) (.k (.int .i64 0)), none⟩,
    ⟨some 3, .mv (.t 9), none⟩] [0, 3] [])
  (.seq (.reg [⟨some 4, .mv (.k (.str ⟨#[]⟩)), none⟩] [0, 3, 4] [])
  (.seq (.block 0 (.loop spec_Decimal.l0))
  (.seq (.seq (.reg [⟨some 26, .mv (.t 3), none⟩] [4, 26] [])
  (.cond (.t 26) (.seq (.reg [⟨some 27, .mv (.t 4), none⟩,
    ⟨some 28, .bin .add (.k (.str ⟨#[45]⟩)) (.t 27), none⟩,
    ⟨some 2, .mv (.t 28), none⟩] [2] [])
  (.ret)) (.skip)))
  (.seq (.reg [⟨some 29, .mv (.t 4), none⟩,
    ⟨some 2, .mv (.t 29), none⟩] [2] [])
  (.ret)))))))
def spec_Decimal.m : Fn := { np := 1, body := spec_Decimal.b, res := [.tmp 2] }
def spec_Decimal.k (M : Nat → Option Body) : Prop := M 197 = some (.code spec_Decimal.m) ∧ spec_l01Figure.k M
def impl_Decimal.l0 : C := .seq (.seq (.reg [⟨some 9, .mv (.t 4), none⟩,
    ⟨some 10, .bin .neq (.t 9) (.k (.int .i64 0)), none⟩] [0, 3, 4, 10] [])
  (.cond (.t 10) (.skip) (.exit 0)))
  (.seq (.block 1 (.seq (.reg [⟨some 13, .mv (.t 4), none⟩,
    ⟨some 14, .bin .rem (.t 13) (.k (.int .i64 10)), none⟩,
    ⟨some 5, .mv (.t 14), none⟩] [0, 3, 4, 5] [])
  (.seq (.reg [⟨some 15, .mv (.t 5), none⟩,
    ⟨some 16, .mv (.t 5), none⟩,
    ⟨some 17, .neg (.t 16), none⟩,
    ⟨some 18, .max (.t 15) (.t 17), none⟩,
    ⟨some 5, .mv (.t 18), none⟩] [0, 3, 4, 5] [])
  (.reg [⟨some 19, .mv (.t 5), none⟩,
    ⟨some 20, .mv (.t 5), none⟩,
    ⟨some 21, .bin .add (.t 20) (.k (.int .i64 1)), none⟩,
    ⟨some 22, .sstr (.k (.str ⟨#[48, 49, 50, 51, 52, 53, 54, 55, 56, 57, 97, 98, 99, 100, 101, 102]⟩)) (some (.t 19)) (some (.t 21)), none⟩,
    ⟨some 23, .mv (.t 3), none⟩,
    ⟨some 24, .bin .add (.t 22) (.t 23), none⟩,
    ⟨some 3, .mv (.t 24), none⟩] [0, 3, 4] []))))
  (.reg [⟨some 11, .mv (.t 4), none⟩,
    ⟨some 12, .bin .quo (.t 11) (.k (.int .i64 10)), none⟩,
    ⟨some 4, .mv (.t 12), none⟩] [0, 3, 4] []))
def impl_Decimal.b : C := .seq (.reg [⟨some 2, .mv (.k (.str ⟨#[]⟩)), none⟩] [0] [])
  (.seq (.seq (.reg [⟨some 6, .mv (.t 0), none⟩,
    ⟨some 7, .bin .eql (.t 6) (.k (.int .i64 0)), none⟩] [0, 7] [])
  (.cond (.t 7) (.seq (.reg [⟨some 2, .mv (.k (.str ⟨#[48]⟩)), none⟩] [2] [])
  (.ret)) (.skip)))
  (.seq (.reg [⟨some 3, .mv (.k (.str ⟨#[]⟩)), none⟩] [0, 3] [])
  (.seq (.seq (.reg [⟨some 8, .mv (.t 0), none⟩,
    ⟨some 4, .mv (.t 8), none⟩] [0, 3, 4] [])
  (.block 0 (.loop impl_Decimal.l0)))
  (.seq (.seq (.reg [⟨some 25, .mv (.t 0), none⟩,
    ⟨some 26, .bin .lss (.t 25) (.k (.int .i64 0)), none⟩] [3, 26] [])
  (.cond (.t 26) (.reg [⟨some 27, .mv (.t 3), none⟩,
    ⟨some 28, .bin .add (.k (.str ⟨#[45]⟩)) (.t 27), none⟩,
    ⟨some 3, .mv (.t 28), none⟩] [3] []) (.skip)))
  (.seq (.reg [⟨some 29, .mv (.t 3), none⟩,
    ⟨some 2, .mv (.t 29), none⟩] [2] [])
  (.ret))))))
def impl_Decimal.m : Fn := { np := 1, body := impl_Decimal.b, res := [.tmp 2] }
def impl_Decimal.k (M : Nat → Option Body) : Prop := M 128 = some (.code impl_Decimal.m)
end Mx

/-
  What the two Decimal answer.
-/
namespace Mx
open Go
variable {M : Nat → Option Body}
def fig (d : Nat) : UInt8 := UInt8.ofNat (48 + d)
def digs (m : Nat) (acc : List UInt8) : List UInt8 := if m = 0 then acc else digs (m / 10) (fig (m % 10) :: acc)
termination_by m
decreasing_by omega
theorem digs_zero (acc : List UInt8) : digs 0 acc = acc := by rw [digs]; simp
theorem digs_step {m : Nat} (h : m ≠ 0) (acc : List UInt8) : digs m acc = digs (m / 10) (fig (m % 10) :: acc) := by rw [digs, if_neg h]
def dec (n : Int) : List UInt8 := if n = 0 then [48] else (if n < 0 then [45] else []) ++ digs n.natAbs []
theorem digs_len : ∀ (k m : Nat) (acc : List UInt8), m < 10 ^ k → (digs m acc).length ≤ acc.length + k := by
  intro k
  induction k with
  | zero => intro m acc h; have : m = 0 := by simpa using h
            subst this; rw [digs_zero]; omega
  | succ k ih =>
    intro m acc h
    by_cases h0 : m = 0
    · subst h0; rw [digs_zero]; omega
    · rw [digs_step h0]
      have := ih (m / 10) (fig (m % 10) :: acc) (by rw [Nat.pow_succ] at h; omega)
      simp at this; omega
theorem dec_len {n : Int} (h : -9223372036854775808 ≤ n) (h' : n ≤ 9223372036854775807) : (dec n).length ≤ 21 := by
  unfold dec
  have := digs_len 20 n.natAbs [] (by omega)
  simp at this
  split
  · simp
  · split <;> simp <;> omega

theorem spec_l01Figure.says (h : spec_l01Figure.k M) (d : Nat) (hd : d < 10) : run M 247 [.c (I d)] [] = some (.c (U8 (fig d).toNat), []) := by
  refine run_code (b := spec_l01Figure.m) h ⟨0, ?_⟩
  have e0 : (d : Int) < 10 := by omega
  have e1 : IntKind.i64.wrap (48 + (d : Int)) = 48 + (d : Int) := wrap_i64 (by omega) (by omega)
  have e2 : IntKind.u8.wrap (48 + (d : Int)) = ((fig d).toNat : Int) := by
    unfold IntKind.wrap; simp [IntKind.bits, IntKind.signed, fig] <;> omega
  simp [exB, spec_l01Figure.m, spec_l01Figure.b, List.range_succ, e0, e1, e2]

def spDec (b : Bool) (s : Int × List UInt8) (x : Nat) : St := { t := [(0, .c (I s.1)), (3, .c (.bool b)), (4, .c (S s.2))], o := [], n := x }
def decInv (s : Int × List UInt8) : Prop := -9223372036854775808 ≤ s.1 ∧ s.1 ≤ 9223372036854775807 ∧ ∃ k, s.1.natAbs < 10 ^ k ∧ s.2.length + k ≤ 20
theorem decInv_step {n : Int} {acc : List UInt8} (h : decInv (n, acc)) (h0 : n ≠ 0) (b : UInt8) : decInv (n.tdiv 10, b :: acc) := by
  obtain ⟨h1, h2, k, h3, h4⟩ := h
  simp only at h1 h2 h3 h4
  have e : (n.tdiv 10).natAbs = n.natAbs / 10 := by rw [Int.natAbs_tdiv]; rfl
  cases k with
  | zero => simp at h3; omega
  | succ k => exact ⟨by simp only; omega, by simp only; omega, k, by simp only; rw [e]; rw [Nat.pow_succ] at h3; omega, by simp; omega⟩
theorem tmod_ten (n : Int) : n.tmod 10 = (n.natAbs % 10 : Nat) ∨ (n.tmod 10 < 0 ∧ n.tmod 10 = - (n.natAbs % 10 : Nat)) := by
  have e : (n.tmod 10).natAbs = n.natAbs % 10 := by rw [Int.natAbs_tmod]; rfl
  omega
theorem spec_Decimal.round (h : spec_Decimal.k M) (k : Nat) (b : Bool) (s : Int × List UInt8) (x : Nat) (hi : decInv s) (h0 : s.1 ≠ 0) :
    ∃ y, exC (run M) k spec_Decimal.l0 (spDec b s x) = some (.normal, spDec b (s.1.tdiv 10, fig (s.1.natAbs % 10) :: s.2) y) := by
  obtain ⟨n, acc⟩ := s
  obtain ⟨h1, h2, k', h3, h4⟩ := hi
  simp only at h0 h1 h2 h3 h4
  have hf := spec_l01Figure.says h.2 (n.natAbs % 10) (by omega)
  have ed : (n.tdiv 10).natAbs = n.natAbs / 10 := by rw [Int.natAbs_tdiv]; rfl
  have e1 : IntKind.i64.wrap (n.tdiv 10) = n.tdiv 10 := wrap_i64 (by omega) (by omega)
  have e2 : acc.length + 1 ≤ 4611686018427387904 := by omega
  have e3 : 1 + acc.length ≤ 4611686018427387904 := by omega
  rcases tmod_ten n with ht | ⟨ht0, ht⟩
  · have e0 : ¬ (((n.natAbs % 10 : Nat) : Int) < 0) := by omega
    generalize n.natAbs % 10 = d at *
    simp only [spDec, spec_Decimal.l0]
    simp (disch := (first | omega | (simp; done) | (simp; omega))) [h0, ht, hf, e1, e0, str_add, rowsBytes]
  · have e0 : n.tmod 10 < 0 := ht0
    have e4 : IntKind.i64.wrap (0 - n.tmod 10) = ((n.natAbs % 10 : Nat) : Int) := by rw [wrap_i64 (by omega) (by omega)]; omega
    generalize n.natAbs % 10 = d at *
    simp only [spDec, spec_Decimal.l0]
    simp only [Int.zero_sub] at e4
    simp (disch := (first | omega | (simp; done) | (simp; omega))) [h0, e0, e4, hf, e1, str_add, rowsBytes]

theorem spec_Decimal.says (h : spec_Decimal.k M) (n : Int) (hn : -9223372036854775808 ≤ n) (hn' : n ≤ 9223372036854775807) : run M 197 [.c (I n)] [] = some (.c (S (dec n)), []) := by
  refine run_code (b := spec_Decimal.m) h.1 ⟨n.natAbs + 1, ?_⟩
  by_cases h0 : n = 0
  · simp [exB, spec_Decimal.m, spec_Decimal.b, List.range_succ, h0, dec]
  obtain ⟨g, hr⟩ := loop_all (f := exC (run M) (n.natAbs + 1) spec_Decimal.l0) (spDec (decide (n < 0))) decInv (fun s => s.1.natAbs) (fun s => digs s.1.natAbs s.2)
    (fun q m => (.exit 0, { t := [(0, .c (I 0)), (3, .c (.bool (decide (n < 0)))), (4, .c (S q)), (11, .c (.bool false))], o := [], n := m }))
    (by
      intro s x hi
      by_cases hs : s.1 = 0
      · right
        exact ⟨x + 32, by simp [spDec, spec_Decimal.l0, hs, digs_zero], by simp⟩
      · left
        obtain ⟨y, hy⟩ := spec_Decimal.round h (n.natAbs + 1) (decide (n < 0)) s x hi hs
        have e : (s.1.tdiv 10).natAbs = s.1.natAbs / 10 := by rw [Int.natAbs_tdiv]; rfl
        refine ⟨_, y, hy, decInv_step hi hs _, by simp only; omega, ?_⟩
        simp only [e]
        exact (digs_step (by omega) _).symm)
    (n.natAbs + 1) (n, []) ⟨hn, hn', 20, by simp only; omega, by simp⟩ (by simp only; omega)
  have hl := digs_len 20 n.natAbs [] (by omega)
  simp [spDec] at hr hl
  by_cases hneg : n < 0
  · simp [hneg] at hr
    simp (disch := (first | omega | (simp; done) | (simp; omega))) [exB, spec_Decimal.m, spec_Decimal.b, List.range_succ, h0, dec, hneg, hr, str_add]
  · simp [hneg] at hr
    simp (disch := (first | omega | (simp; done) | (simp; omega))) [exB, spec_Decimal.m, spec_Decimal.b, List.range_succ, h0, dec, hneg, hr, str_add]

def imDec (n : Int) (s : Int × List UInt8) (x : Nat) : St := { t := [(0, .c (I n)), (3, .c (S s.2)), (4, .c (I s.1))], o := [], n := x }
theorem fig_of : ∀ d : Nat, d < 10 → ∃ h : d < 16, ([48, 49, 50, 51, 52, 53, 54, 55, 56, 57, 97, 98, 99, 100, 101, 102] : List UInt8)[d] = fig d := by decide
theorem impl_Decimal.round (k : Nat) (n0 : Int) (s : Int × List UInt8) (x : Nat) (hi : decInv s) (h0 : s.1 ≠ 0) :
    ∃ y, exC (run M) k impl_Decimal.l0 (imDec n0 s x) = some (.normal, imDec n0 (s.1.tdiv 10, fig (s.1.natAbs % 10) :: s.2) y) := by
  obtain ⟨n, acc⟩ := s
  obtain ⟨h1, h2, k', h3, h4⟩ := hi
  simp only at h0 h1 h2 h3 h4
  have ed : (n.tdiv 10).natAbs = n.natAbs / 10 := by rw [Int.natAbs_tdiv]; rfl
  have e1 : IntKind.i64.wrap (n.tdiv 10) = n.tdiv 10 := wrap_i64 (by omega) (by omega)
  have e2 : acc.length + 1 ≤ 4611686018427387904 := by omega
  have e3 : 1 + acc.length ≤ 4611686018427387904 := by omega
  have hd : n.natAbs % 10 < 10 := by omega
  have e5 : IntKind.i64.wrap (((n.natAbs % 10 : Nat) : Int) + 1) = ((n.natAbs % 10 + 1 : Nat) : Int) := wrap_i64 (by omega) (by omega)
  have e4 : IntKind.i64.wrap (-(n.tmod 10)) = -(n.tmod 10) := wrap_i64 (by have := tmod_ten n; omega) (by have := tmod_ten n; omega)
  have e6 : (if n.tmod 10 < -(n.tmod 10) then -(n.tmod 10) else n.tmod 10) = ((n.natAbs % 10 : Nat) : Int) := by
    rcases tmod_ten n with ht | ⟨ht0, ht⟩ <;> split <;> omega
  generalize n.natAbs % 10 = d at *
  obtain ⟨hd16, hfig⟩ := fig_of d hd
  have e7 := take_drop1 ([48, 49, 50, 51, 52, 53, 54, 55, 56, 57, 97, 98, 99, 100, 101, 102] : List UInt8) d hd16
  rw [hfig] at e7
  simp only [List.take_succ_cons] at e7
  have e8 : d + 1 ≤ 16 := by omega
  have e9 : (0 : Int) ≤ (d : Int) + 1 := by omega
  have e10 : ((d : Int) + 1).toNat = d + 1 := by omega
  simp only [imDec, impl_Decimal.l0]
  simp (disch := (first | omega | (simp; done) | (simp; omega))) [h0, e4, e5, e6, e7, e8, e9, e10, e1, str_add]

theorem impl_Decimal.says (h : impl_Decimal.k M) (n : Int) (hn : -9223372036854775808 ≤ n) (hn' : n ≤ 9223372036854775807) : run M 128 [.c (I n)] [] = some (.c (S (dec n)), []) := by
  refine run_code (b := impl_Decimal.m) h ⟨n.natAbs + 1, ?_⟩
  by_cases h0 : n = 0
  · simp [exB, impl_Decimal.m, impl_Decimal.b, List.range_succ, h0, dec]
  obtain ⟨g, hr⟩ := loop_all (f := exC (run M) (n.natAbs + 1) impl_Decimal.l0) (imDec n) decInv (fun s => s.1.natAbs) (fun s => digs s.1.natAbs s.2)
    (fun q m => (.exit 0, { t := [(0, .c (I n)), (3, .c (S q)), (4, .c (I 0)), (10, .c (.bool false))], o := [], n := m }))
    (by
      intro s x hi
      by_cases hs : s.1 = 0
      · right
        exact ⟨x + 32, by simp [imDec, impl_Decimal.l0, hs, digs_zero], by simp⟩
      · left
        obtain ⟨y, hy⟩ := impl_Decimal.round (n.natAbs + 1) n s x hi hs
        have e : (s.1.tdiv 10).natAbs = s.1.natAbs / 10 := by rw [Int.natAbs_tdiv]; rfl
        refine ⟨_, y, hy, decInv_step hi hs _, by simp only; omega, ?_⟩
        simp only [e]
        exact (digs_step (by omega) _).symm)
    (n.natAbs + 1) (n, []) ⟨hn, hn', 20, by simp only; omega, by simp⟩ (by simp only; omega)
  have hl := digs_len 20 n.natAbs [] (by omega)
  simp [imDec] at hr hl
  by_cases hneg : n < 0
  · simp (disch := (first | omega | (simp; done) | (simp; omega))) [exB, impl_Decimal.m, impl_Decimal.b, List.range_succ, h0, dec, hneg, hr, str_add]
  · simp (disch := (first | omega | (simp; done) | (simp; omega))) [exB, impl_Decimal.m, impl_Decimal.b, List.range_succ, h0, dec, hneg, hr, str_add]
end Mx

/-
  Small codes: laws.szToken, laws.toToken, spec.TokenText, impl.TokenText, laws.FnExactTokenText.
-/
namespace Mx
open Go
def laws_szToken.b : C := .seq (.reg [⟨some 2, .box (.t 0), none⟩,
    ⟨some 4, .mv (.k (.int .i64 0)), none⟩] [1, 2] [2])
  (.seq (.reg [⟨some 5, .mv (.t 1), none⟩,
    ⟨some 6, .faddr 1 (.t 2), none⟩,
    ⟨some 7, .load false 1 (.t 6), none⟩,
    ⟨some 8, .slen (.t 7), none⟩,
    ⟨some 9, .bin .sub (.t 5) (.t 8), none⟩,
    ⟨some 1, .mv (.t 9), none⟩] [1] [])
  (.seq (.seq (.reg [⟨some 10, .mv (.t 1), none⟩,
    ⟨some 11, .bin .lss (.t 10) (.k (.int .i64 0)), none⟩] [1, 11] [])
  (.cond (.t 11) (.seq (.reg [⟨some 4, .mv (.k (.int .i64 (-1))), none⟩] [4] [])
  (.ret)) (.skip)))
  (.seq (.reg [⟨some 12, .mv (.t 1), none⟩,
    ⟨some 4, .mv (.t 12), none⟩] [4] [])
  (.ret))))
def laws_szToken.m : Fn := { np := 2, body := laws_szToken.b, res := [.tmp 4] }
def laws_szToken.k (M : Nat → Option Body) : Prop := M 337 = some (.code laws_szToken.m)
def laws_toToken.b : C := .seq (.reg [⟨some 1, .box (.t 0), none⟩,
    ⟨some 2, .alloc [.int .i64 0, .str ⟨#[]⟩], none⟩] [1, 2] [1, 2])
  (.seq (.reg [⟨some 3, .alloc [.int .i64 0, .str ⟨#[]⟩], none⟩] [1, 2, 3] [1, 2, 3])
  (.seq (.reg [⟨some 4, .faddr 0 (.t 1), none⟩,
    ⟨some 5, .load false 1 (.t 4), none⟩,
    ⟨some 6, .faddr 0 (.t 3), none⟩,
    ⟨none, .store 1 (.t 6) (.t 5), none⟩] [1, 2, 3] [1, 2, 3])
  (.seq (.reg [⟨some 7, .faddr 1 (.t 1), none⟩,
    ⟨some 8, .load false 1 (.t 7), none⟩,
    ⟨some 9, .faddr 1 (.t 3), none⟩,
    ⟨none, .store 1 (.t 9) (.t 8), none⟩] [2, 3] [2, 3])
  (.seq (.reg [⟨some 10, .load true 2 (.t 3), none⟩,
    ⟨none, .store 2 (.t 2) (.t 10), none⟩] [2] [2])
  (.ret)))))
def laws_toToken.m : Fn := { np := 1, body := laws_toToken.b, res := [.cell 2 true 2] }
def laws_toToken.k (M : Nat → Option Body) : Prop := M 338 = some (.code laws_toToken.m)
def spec_TokenText.b : C := .seq (.reg [⟨some 1, .box (.t 0), none⟩,
    ⟨some 2, .mv (.k (.str ⟨#[]⟩)), none⟩] [1] [1])
  (.seq (.seq (.reg [⟨some 5, .faddr 0 (.t 1), none⟩,
    ⟨some 6, .load false 1 (.t 5), none⟩,
    ⟨some 7, .bin .eql (.t 6) (.k (.int .i64 1)), none⟩] [1, 7] [1])
  (.cond (.t 7) (.seq (.reg [⟨some 8, .faddr 1 (.t 1), none⟩,
    ⟨some 9, .load false 1 (.t 8), none⟩,
    ⟨some 2, .mv (.t 9), none⟩] [2] [])
  (.ret)) (.skip)))
  (.seq (.reg [⟨some 11, .faddr 1 (.t 1), none⟩,
    ⟨some 12, .load false 1 (.t 11), none⟩,
    ⟨some 13, .call 319 [.t 12] [] [], none⟩,
    ⟨some 10, .mv (.t 13), none⟩,
    ⟨some 14, .ext 0 (.t 10), none⟩,
    ⟨some 15, .ext 1 (.t 10), none⟩,
    ⟨some 3, .mv (.t 14), none⟩,
    ⟨some 4, .mv (.t 15), none⟩] [1, 3, 4] [1])
  (.seq (.seq (.reg [⟨some 16, .mv (.t 4), none⟩] [1, 3, 16] [1])
  (.cond (.t 16) (.seq (.reg [⟨some 17, .mv (.t 3), none⟩,
    ⟨some 2, .mv (.t 17), none⟩] [2] [])
  (.ret)) (.skip)))
  (.seq (.regd [⟨some 18, .faddr 1 (.t 1), none⟩,
    ⟨some 19, .load false 1 (.t 18), none⟩,
    ⟨some 20, .slen (.t 19), none⟩,
    ⟨some 21, .call 197 [.t 20] [] [], none⟩,
    ⟨some 22, .bin .add (.k (.str ⟨#[123]⟩)) (.t 21), none⟩,
    ⟨some 23, .bin .add (.t 22) (.k (.str ⟨#[125, 13, 10]⟩)), none⟩,
    ⟨some 24, .faddr 1 (.t 1), none⟩,
    ⟨some 25, .load false 1 (.t 24), none⟩,
    ⟨some 26, .bin .add (.t 23) (.t 25), none⟩,
    ⟨some 2, .mv (.t 26), none⟩] [[], [0], [0, 1], [0, 1, 2], [0, 1, 2, 3], [0, 1, 2, 3, 4], [], [6], [0, 1, 2, 3, 4, 5, 6, 7], [0, 1, 2, 3, 4, 5, 6, 7, 8]] [2] [])
  (.ret)))))
def spec_TokenText.m : Fn := { np := 1, body := spec_TokenText.b, res := [.tmp 2] }
def spec_TokenText.k (M : Nat → Option Body) : Prop := M 328 = some (.code spec_TokenText.m) ∧ spec_Decimal.k M ∧ spec_QuoteText.k M
def impl_TokenText.b : C := .seq (.reg [⟨some 1, .box (.t 0), none⟩,
    ⟨some 2, .mv (.k (.str ⟨#[]⟩)), none⟩] [1] [1])
  (.seq (.seq (.reg [⟨some 5, .faddr 0 (.t 1), none⟩,
    ⟨some 6, .load false 1 (.t 5), none⟩,
    ⟨some 7, .bin .eql (.t 6) (.k (.int .i64 1)), none⟩] [1, 7] [1])
  (.cond (.t 7) (.seq (.reg [⟨some 8, .faddr 1 (.t 1), none⟩,
    ⟨some 9, .load false 1 (.t 8), none⟩,
    ⟨some 2, .mv (.t 9), none⟩] [2] [])
  (.ret)) (.skip)))
  (.seq (.seq (.reg [⟨some 11, .faddr 1 (.t 1), none⟩,
    ⟨some 12, .load false 1 (.t 11), none⟩,
    ⟨some 13, .call 127 [.t 12] [] [], none⟩,
    ⟨some 10, .mv (.t 13), none⟩,
    ⟨some 14, .ext 0 (.t 10), none⟩,
    ⟨some 15, .ext 1 (.t 10), none⟩,
    ⟨some 3, .mv (.t 14), none⟩,
    ⟨some 4, .mv (.t 15), none⟩] [1, 3, 4] [1])
  (.seq (.reg [⟨some 16, .mv (.t 4), none⟩] [1, 3, 16] [1])
  (.cond (.t 16) (.seq (.reg [⟨some 17, .mv (.t 3), none⟩,
    ⟨some 2, .mv (.t 17), none⟩] [2] [])
  (.ret)) (.skip))))
  (.seq (.regd [⟨some 18, .faddr 1 (.t 1), none⟩,
    ⟨some 19, .load false 1 (.t 18), none⟩,
    ⟨some 20, .slen (.t 19), none⟩,
    ⟨some 21, .call 128 [.t 20] [] [], none⟩,
    ⟨some 22, .bin .add (.k (.str ⟨#[123]⟩)) (.t 21), none⟩,
    ⟨some 23, .bin .add (.t 22) (.k (.str ⟨#[125]⟩)), none⟩,
    ⟨some 24, .bin .add (.t 23) (.k (.str ⟨#[13, 10]⟩)), none⟩,
    ⟨some 25, .faddr 1 (.t 1), none⟩,
    ⟨some 26, .load false 1 (.t 25), none⟩,
    ⟨some 27, .bin .add (.t 24) (.t 26), none⟩,
    ⟨some 2, .mv (.t 27), none⟩] [[], [0], [0, 1], [0, 1, 2], [0, 1, 2, 3], [0, 1, 2, 3, 4], [0, 1, 2, 3, 4, 5], [], [7], [0, 1, 2, 3, 4, 5, 6, 7, 8], [0, 1, 2, 3, 4, 5, 6, 7, 8, 9]] [2] [])
  (.ret))))
def impl_TokenText.m : Fn := { np := 1, body := impl_TokenText.b, res := [.tmp 2] }
def impl_TokenText.k (M : Nat → Option Body) : Prop := M 38 = some (.code impl_TokenText.m) ∧ impl_QuoteText.k M ∧ impl_Decimal.k M
def laws_FnExactTokenText.b : C := .seq (.reg [⟨some 1, .box (.t 0), none⟩,
    ⟨some 2, .mv (.k (.bool false)), none⟩] [1] [1])
  (.seq (.reg [⟨some 3, .mv (.k (.int .i64 1048576)), none⟩] [1, 3] [1])
  (.seq (.reg [⟨some 6, .load true 2 (.t 1), none⟩,
    ⟨some 7, .mv (.t 3), none⟩,
    ⟨some 8, .call 337 [.t 6, .t 7] [] [], none⟩,
    ⟨some 3, .mv (.t 8), none⟩] [1, 3] [1])
  (.seq (.seq (.reg [⟨some 9, .mv (.t 3), none⟩,
    ⟨some 10, .bin .lss (.t 9) (.k (.int .i64 0)), none⟩] [1, 10] [1])
  (.cond (.t 10) (.seq (.reg [⟨some 2, .mv (.k (.bool true)), none⟩] [2] [])
  (.ret)) (.skip)))
  (.seq (.reg [⟨some 11, .load true 2 (.t 1), none⟩,
    ⟨some 12, .call 338 [.t 11] [] [], none⟩,
    ⟨some 13, .call 328 [.t 12] [] [], none⟩,
    ⟨some 4, .mv (.t 13), none⟩] [1, 4] [1])
  (.seq (.reg [⟨some 14, .load true 2 (.t 1), none⟩,
    ⟨some 15, .call 338 [.t 14] [] [], none⟩,
    ⟨some 16, .call 38 [.t 15] [] [], none⟩,
    ⟨some 5, .mv (.t 16), none⟩] [4, 5] [])
  (.seq (.seq (.reg [⟨some 17, .mv (.t 5), none⟩,
    ⟨some 18, .mv (.t 4), none⟩,
    ⟨some 19, .bin .neq (.t 17) (.t 18), none⟩] [19] [])
  (.cond (.t 19) (.seq (.reg [⟨some 2, .mv (.k (.bool false)), none⟩] [2] [])
  (.ret)) (.skip)))
  (.seq (.reg [⟨some 2, .mv (.k (.bool true)), none⟩] [2] [])
  (.ret))))))))
def laws_FnExactTokenText.m : Fn := { np := 1, body := laws_FnExactTokenText.b, res := [.tmp 2] }
def laws_FnExactTokenText.k (M : Nat → Option Body) : Prop := M 353 = some (.code laws_FnExactTokenText.m) ∧ impl_TokenText.k M ∧ spec_TokenText.k M ∧ laws_szToken.k M ∧ laws_toToken.k M
end Mx

/-
  What the law of TokenText answers.
-/
namespace Mx
open Go
variable {M : Nat → Option Body}
structure Token where
  kind : Int
  text : List UInt8
def encToken (x : Token) : List T := [I x.kind, S x.text]
theorem has_token {r : List T} (h : HasL [.int .i64, .str] r) : ∃ x : Token, r = encToken x ∧ x.text.length ≤ maxLen := by
  match r, h with
  | [a, b], h =>
    have h1 := h.2 0 _ a rfl rfl
    have h2 := h.2 1 _ b rfl rfl
    cases h1
    cases h2 with | str s hs =>
    obtain ⟨l, rfl⟩ := of_bytes s
    exact ⟨⟨_, l⟩, rfl, by simpa using hs⟩

def tokenText (x : Token) : List UInt8 := if x.kind = 1 then x.text else if (quoted x.text).2 then (quoted x.text).1 else [123] ++ dec x.text.length ++ [125, 13, 10] ++ x.text
theorem spec_TokenText.says (h : spec_TokenText.k M) (x : Token) (hx : x.text.length ≤ 1048576) : run M 328 [.a (encToken x)] [] = some (.c (S (tokenText x)), []) := by
  have h1 := spec_QuoteText.says h.2.2 x.text hx
  have h2 := spec_Decimal.says h.2.1 x.text.length (by omega) (by omega)
  have h3 := dec_len (n := x.text.length) (by omega) (by omega)
  refine run_code (b := spec_TokenText.m) h.1 ⟨0, ?_⟩
  by_cases hk : x.kind = 1
  · simp [exB, spec_TokenText.m, spec_TokenText.b, List.range_succ, encToken, tokenText, hk]
  · cases hq : (quoted x.text).2 with
    | true =>
      rw [hq] at h1
      simp [exB, spec_TokenText.m, spec_TokenText.b, List.range_succ, encToken, tokenText, hk, hq, h1]
    | false =>
      rw [hq] at h1
      simp (disch := (first | omega | (simp; done) | (simp; omega))) [exB, spec_TokenText.m, spec_TokenText.b, List.range_succ, encToken, tokenText, hk, hq, h1, h2, str_add]
theorem impl_TokenText.says (h : impl_TokenText.k M) (x : Token) (hx : x.text.length ≤ 1048576) : run M 38 [.a (encToken x)] [] = some (.c (S (tokenText x)), []) := by
  have h1 := impl_QuoteText.says h.2.1 x.text hx
  have h2 := impl_Decimal.says h.2.2 x.text.length (by omega) (by omega)
  have h3 := dec_len (n := x.text.length) (by omega) (by omega)
  refine run_code (b := impl_TokenText.m) h.1 ⟨0, ?_⟩
  by_cases hk : x.kind = 1
  · simp [exB, impl_TokenText.m, impl_TokenText.b, List.range_succ, encToken, tokenText, hk]
  · cases hq : (quoted x.text).2 with
    | true =>
      rw [hq] at h1
      simp [exB, impl_TokenText.m, impl_TokenText.b, List.range_succ, encToken, tokenText, hk, hq, h1]
    | false =>
      rw [hq] at h1
      simp (disch := (first | omega | (simp; done) | (simp; omega))) [exB, impl_TokenText.m, impl_TokenText.b, List.range_succ, encToken, tokenText, hk, hq, h1, h2, str_add]

theorem laws_toToken.says (h : laws_toToken.k M) (x : Token) : run M 338 [.a (encToken x)] [] = some (.a (encToken x), []) := by
  refine run_code (b := laws_toToken.m) h ⟨0, ?_⟩
  simp [exB, laws_toToken.m, laws_toToken.b, List.range_succ, encToken]
theorem laws_szToken.says (h : laws_szToken.k M) (x : Token) (hx : x.text.length ≤ maxLen) (n : Int) (hn : 0 ≤ n) (hn' : n ≤ 9223372036854775807) :
    run M 337 [.a (encToken x), .c (I n)] [] = some (.c (I (if n < x.text.length then -1 else n - x.text.length)), []) := by
  refine run_code (b := laws_szToken.m) h ⟨0, ?_⟩
  have hm : maxLen = 9223372036854775807 := rfl
  have e1 : IntKind.i64.wrap (n - x.text.length) = n - x.text.length := wrap_i64 (by omega) (by omega)
  by_cases hc : n < x.text.length
  · have e2 : n - x.text.length < 0 := by omega
    simp [exB, laws_szToken.m, laws_szToken.b, List.range_succ, encToken, e1, e2, hc]
  · have e2 : ¬ (n - x.text.length < 0) := by omega
    simp [exB, laws_szToken.m, laws_szToken.b, List.range_succ, encToken, e1, e2, hc]
theorem laws_FnExactTokenText.says (h : laws_FnExactTokenText.k M) (x : Token) (hx : x.text.length ≤ maxLen) : run M 353 [.a (encToken x)] [] = some (.c (.bool true), []) := by
  have hm : maxLen = 9223372036854775807 := rfl
  have h1 := laws_szToken.says h.2.2.2.1 x hx 1048576 (by omega) (by omega)
  have h2 := laws_toToken.says h.2.2.2.2 x
  refine run_code (b := laws_FnExactTokenText.m) h.1 ⟨0, ?_⟩
  by_cases hc : (1048576 : Int) < x.text.length
  · rw [if_pos hc] at h1
    simp [encToken] at h1
    simp [exB, laws_FnExactTokenText.m, laws_FnExactTokenText.b, List.range_succ, encToken, h1]
  · rw [if_neg hc] at h1
    have h3 := impl_TokenText.says h.2.1 x (by omega)
    have h4 := spec_TokenText.says h.2.2.1 x (by omega)
    have e : ¬ ((1048576 : Int) - x.text.length < 0) := by omega
    simp [encToken] at h1 h2 h3 h4
    simp [exB, laws_FnExactTokenText.m, laws_FnExactTokenText.b, List.range_succ, encToken, h1, h2, h3, h4, e]
theorem laws_FnExactTokenText.row (h : laws_FnExactTokenText.k M) {as : List V} (ha : HasVs [.struct [.int .i64, .str]] as) : run M 353 as [] = some (.c (.bool true), []) := by
  cases ha with | cons h0 ha =>
  cases ha
  cases h0 with | struct h0 =>
  obtain ⟨x, rfl, hx⟩ := has_token h0
  exact laws_FnExactTokenText.says h x hx
end Mx
