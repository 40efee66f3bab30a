/-
  The small codes of QuoteText (the specification's, the implementation's and the law's), and what they answer at every text.
-/
import Derived.Test.YteeddgnjannecaaMxB
namespace Mx
open Go
-- loop.example/g00324/laws.FnExactQuoteText = 348
def laws_FnExactQuoteText.b : C := .seq (.reg [⟨some 2, .mv (.k (.bool false)), none⟩] [0] [])
  (.seq (.seq (.reg [⟨some 7, .mv (.t 0), none⟩,
    ⟨some 8, .slen (.t 7), none⟩,
    ⟨some 9, .bin .gtr (.t 8) (.k (.int .i64 1048576)), none⟩] [0, 9] [])
  (.cond (.t 9) (.seq (.reg [⟨some 2, .mv (.k (.bool true)), none⟩] [2] [])
  (.ret)) (.skip)))
  (.seq (.reg [⟨some 11, .mv (.t 0), none⟩,
    ⟨some 12, .call 319 [.t 11] [] [], none⟩,
    ⟨some 10, .mv (.t 12), none⟩,
    ⟨some 13, .ext 0 (.t 10), none⟩,
    ⟨some 14, .ext 1 (.t 10), none⟩,
    ⟨some 3, .mv (.t 13), none⟩,
    ⟨some 4, .mv (.t 14), none⟩] [0, 3, 4] [])
  (.seq (.reg [⟨some 16, .mv (.t 0), none⟩,
    ⟨some 17, .call 127 [.t 16] [] [], none⟩,
    ⟨some 15, .mv (.t 17), none⟩,
    ⟨some 18, .ext 0 (.t 15), none⟩,
    ⟨some 19, .ext 1 (.t 15), none⟩,
    ⟨some 5, .mv (.t 18), none⟩,
    ⟨some 6, .mv (.t 19), none⟩] [3, 4, 5, 6] [])
  (.seq (.seq (.reg [⟨some 20, .mv (.t 5), none⟩,
    ⟨some 21, .mv (.t 3), none⟩,
    ⟨some 22, .bin .neq (.t 20) (.t 21), none⟩,
    ⟨some 23, .mv (.t 22), none⟩,
    ⟨some 24, .mv (.t 6), some (23, false)⟩,
    ⟨some 25, .mv (.t 4), some (23, false)⟩,
    ⟨some 26, .beq true (.t 24) (.t 25), some (23, false)⟩,
    ⟨some 27, .pick (.t 23) (.k (.bool true)) (.t 26), none⟩] [27] [])
  (.cond (.t 27) (.seq (.reg [⟨some 2, .mv (.k (.bool false)), none⟩] [2] [])
  (.ret)) (.skip)))
  (.seq (.reg [⟨some 2, .mv (.k (.bool true)), none⟩] [2] [])
  (.ret))))))
def laws_FnExactQuoteText.m : Fn := { np := 1, body := laws_FnExactQuoteText.b, res := [.tmp 2] }
-- loop.example/g00324/spec.QuoteText = 319
def spec_QuoteText.l0 : C := .seq (.seq (.reg [⟨some 6, .mv (.t 5), none⟩,
    ⟨some 7, .mv (.t 0), none⟩,
    ⟨some 8, .slen (.t 7), none⟩,
    ⟨some 9, .bin .lss (.t 6) (.t 8), none⟩] [0, 4, 5, 9] [])
  (.cond (.t 9) (.skip) (.exit 0)))
  (.seq (.block 1 (.seq (.seq (.reg [⟨some 12, .mv (.t 0), none⟩,
    ⟨some 13, .mv (.t 5), none⟩,
    ⟨some 14, .idx (.t 12) (.t 13), none⟩,
    ⟨some 15, .bin .lss (.t 14) (.k (.int .u8 32)), none⟩,
    ⟨some 16, .mv (.t 15), none⟩,
    ⟨some 17, .mv (.t 0), some (16, false)⟩,
    ⟨some 18, .mv (.t 5), some (16, false)⟩,
    ⟨some 19, .idx (.t 17) (.t 18), some (16, false)⟩,
    ⟨some 20, .bin .gtr (.t 19) (.k (.int .u8 126)), some (16, false)⟩,
    ⟨some 21, .pick (.t 16) (.k (.bool true)) (.t 20), none⟩] [0, 4, 5, 21] [])
  (.cond (.t 21) (.seq (.reg [⟨some 2, .mv (.k (.str ⟨#[]⟩)), none⟩,
    ⟨some 3, .mv (.k (.bool false)), none⟩] [2, 3] [])
  (.ret)) (.skip)))
  (.seq (.seq (.reg [⟨some 22, .mv (.t 0), none⟩,
    ⟨some 23, .mv (.t 5), none⟩,
    ⟨some 24, .idx (.t 22) (.t 23), none⟩,
    ⟨some 25, .bin .eql (.t 24) (.k (.int .u8 34)), none⟩,
    ⟨some 26, .mv (.t 25), none⟩,
    ⟨some 27, .mv (.t 0), some (26, false)⟩,
    ⟨some 28, .mv (.t 5), some (26, false)⟩,
    ⟨some 29, .idx (.t 27) (.t 28), some (26, false)⟩,
    ⟨some 30, .bin .eql (.t 29) (.k (.int .u8 92)), some (26, false)⟩,
    ⟨some 31, .pick (.t 26) (.k (.bool true)) (.t 30), none⟩] [0, 4, 5, 31] [])
  (.cond (.t 31) (.reg [⟨some 32, .mv (.t 4), none⟩,
    ⟨some 33, .bin .add (.t 32) (.k (.str ⟨#[92]⟩)), none⟩,
    ⟨some 4, .mv (.t 33), none⟩] [0, 4, 5] []) (.skip)))
  (.reg [⟨some 34, .mv (.t 4), none⟩,
    ⟨some 35, .mv (.t 0), none⟩,
    ⟨some 36, .mv (.t 5), none⟩,
    ⟨some 37, .mv (.t 5), none⟩,
    ⟨some 38, .bin .add (.t 37) (.k (.int .i64 1)), none⟩,
    ⟨some 39, .sstr (.t 35) (some (.t 36)) (some (.t 38)), none⟩,
    ⟨some 40, .bin .add (.t 34) (.t 39), none⟩,
    ⟨some 4, .mv (.t 40), none⟩] [0, 4, 5] []))))
  (.reg [⟨some 10, .mv (.t 5), none⟩,
    ⟨some 11, .bin .add (.t 10) (.k (.int .i64 1)), none⟩,
    ⟨some 5, .mv (.t 11), none⟩] [0, 4, 5] []))
def spec_QuoteText.b : C := .seq (.reg [⟨some 2, .mv (.k (.str ⟨#[]⟩)), none⟩,
    ⟨some 3, .mv (.k (.bool false)), none⟩] [0] [])
  (.seq (.reg [⟨some 4, .mv (.k (.str ⟨#[34]⟩)), none⟩] [0, 4] [])
  (.seq (.seq (.reg [⟨some 5, .mv (.k (.int .i64 0)), none⟩] [0, 4, 5] [])
  (.block 0 (.loop spec_QuoteText.l0)))
  (.seq (.seq (.reg [⟨some 41, .mv (.t 0), none⟩,
    ⟨some 42, .slen (.t 41), none⟩,
    ⟨some 43, .bin .gtr (.t 42) (.k (.int .i64 60)), none⟩] [4, 43] [])
  (.cond (.t 43) (.seq (.reg [⟨some 2, .mv (.k (.str ⟨#[]⟩)), none⟩,
    ⟨some 3, .mv (.k (.bool false)), none⟩] [2, 3] [])
  (.ret)) (.skip)))
  (.seq (.reg [⟨some 44, .mv (.t 4), none⟩,
    ⟨some 45, .bin .add (.t 44) (.k (.str ⟨#[34]⟩)), none⟩,
    ⟨some 2, .mv (.t 45), none⟩,
    ⟨some 3, .mv (.k (.bool true)), none⟩] [2, 3] [])
  (.ret)))))
def spec_QuoteText.m : Fn := { np := 1, body := spec_QuoteText.b, res := [.tmp 2, .tmp 3] }
-- loop.example/g00324/impl.QuoteText = 127
def impl_QuoteText.l0 : C := .seq (.seq (.reg [⟨some 7, .mv (.t 5), none⟩,
    ⟨some 8, .mv (.t 0), none⟩,
    ⟨some 9, .slen (.t 8), none⟩,
    ⟨some 10, .bin .lss (.t 7) (.t 9), none⟩] [0, 4, 5, 10] [6, 35, 41])
  (.cond (.t 10) (.skip) (.exit 0)))
  (.seq (.block 1 (.seq (.seq (.reg [⟨some 13, .mv (.t 0), none⟩,
    ⟨some 14, .mv (.t 5), none⟩,
    ⟨some 15, .idx (.t 13) (.t 14), none⟩,
    ⟨some 16, .bin .lss (.t 15) (.k (.int .u8 32)), none⟩,
    ⟨some 17, .mv (.t 16), none⟩,
    ⟨some 18, .mv (.t 0), some (17, false)⟩,
    ⟨some 19, .mv (.t 5), some (17, false)⟩,
    ⟨some 20, .idx (.t 18) (.t 19), some (17, false)⟩,
    ⟨some 21, .bin .gtr (.t 20) (.k (.int .u8 126)), some (17, false)⟩,
    ⟨some 22, .pick (.t 17) (.k (.bool true)) (.t 21), none⟩] [0, 4, 5, 22] [6, 35, 41])
  (.cond (.t 22) (.seq (.reg [⟨some 2, .mv (.k (.str ⟨#[]⟩)), none⟩,
    ⟨some 3, .mv (.k (.bool false)), none⟩] [2, 3] [])
  (.ret)) (.skip)))
  (.seq (.seq (.reg [⟨some 23, .mv (.t 0), none⟩,
    ⟨some 24, .mv (.t 5), none⟩,
    ⟨some 25, .idx (.t 23) (.t 24), none⟩,
    ⟨some 26, .bin .eql (.t 25) (.k (.int .u8 34)), none⟩,
    ⟨some 27, .mv (.t 26), none⟩,
    ⟨some 28, .mv (.t 0), some (27, false)⟩,
    ⟨some 29, .mv (.t 5), some (27, false)⟩,
    ⟨some 30, .idx (.t 28) (.t 29), some (27, false)⟩,
    ⟨some 31, .bin .eql (.t 30) (.k (.int .u8 92)), some (27, false)⟩,
    ⟨some 32, .pick (.t 27) (.k (.bool true)) (.t 31), none⟩] [0, 4, 5, 32] [6, 35, 41])
  (.cond (.t 32) (.reg [⟨some 33, .mv (.t 4), none⟩,
    ⟨some 34, .bslice 1 1 [.int .u8 0] [(0, .k (.int .u8 92))], none⟩,
    ⟨some 35, .app 1 1 (.t 33) (.t 34), none⟩,
    ⟨some 4, .mv (.t 35), none⟩] [0, 4, 5] [6, 35, 41]) (.skip)))
  (.reg [⟨some 36, .mv (.t 4), none⟩,
    ⟨some 37, .mv (.t 0), none⟩,
    ⟨some 38, .mv (.t 5), none⟩,
    ⟨some 39, .idx (.t 37) (.t 38), none⟩,
    ⟨some 40, .bslice 1 1 [.int .u8 0] [(0, .t 39)], none⟩,
    ⟨some 41, .app 1 1 (.t 36) (.t 40), none⟩,
    ⟨some 4, .mv (.t 41), none⟩] [0, 4, 5] [6, 35, 41]))))
  (.reg [⟨some 11, .mv (.t 5), none⟩,
    ⟨some 12, .bin .add (.t 11) (.k (.int .i64 1)), none⟩,
    ⟨some 5, .mv (.t 12), none⟩] [0, 4, 5] [6, 35, 41]))
def impl_QuoteText.b : C := .seq (.reg [⟨some 2, .mv (.k (.str ⟨#[]⟩)), none⟩,
    ⟨some 3, .mv (.k (.bool false)), none⟩] [0] [])
  (.seq (.reg [⟨some 6, .bslice 1 1 [.int .u8 0] [(0, .k (.int .u8 34))], none⟩,
    ⟨some 4, .mv (.t 6), none⟩] [0, 4] [6, 35, 41])
  (.seq (.seq (.reg [⟨some 5, .mv (.k (.int .i64 0)), none⟩] [0, 4, 5] [6, 35, 41])
  (.block 0 (.loop impl_QuoteText.l0)))
  (.seq (.seq (.reg [⟨some 42, .mv (.t 0), none⟩,
    ⟨some 43, .slen (.t 42), none⟩,
    ⟨some 44, .bin .gtr (.t 43) (.k (.int .i64 60)), none⟩] [4, 44] [6, 35, 41])
  (.cond (.t 44) (.seq (.reg [⟨some 2, .mv (.k (.str ⟨#[]⟩)), none⟩,
    ⟨some 3, .mv (.k (.bool false)), none⟩] [2, 3] [])
  (.ret)) (.skip)))
  (.seq (.reg [⟨some 45, .mv (.t 4), none⟩,
    ⟨some 46, .bslice 1 1 [.int .u8 0] [(0, .k (.int .u8 34))], none⟩,
    ⟨some 47, .app 1 1 (.t 45) (.t 46), none⟩,
    ⟨some 48, .b2s (.t 47), none⟩,
    ⟨some 2, .mv (.t 48), none⟩,
    ⟨some 3, .mv (.k (.bool true)), none⟩] [2, 3] [])
  (.ret)))))
def impl_QuoteText.m : Fn := { np := 1, body := impl_QuoteText.b, res := [.tmp 2, .tmp 3] }

def esc (b : UInt8) : List UInt8 := if b = 34 ∨ b = 92 then [92, b] else [b]
def escs (l : List UInt8) : List UInt8 := l.flatMap esc
theorem escs_len (l : List UInt8) : (escs l).length ≤ 2 * l.length := by
  induction l with
  | nil => simp [escs]
  | cons b l ih =>
    simp only [escs, List.flatMap_cons, List.length_append, List.length_cons] at ih ⊢
    have : (esc b).length ≤ 2 := by unfold esc; split <;> simp
    omega
theorem escs_take {l : List UInt8} {i : Nat} (hi : i < l.length) : escs (l.take (i + 1)) = escs (l.take i) ++ esc l[i] := by
  unfold escs; rw [List.take_succ_eq_append_getElem hi, List.flatMap_append]; simp

def spS (l : List UInt8) (i : Nat) (n : Nat) : St := { t := [(0, .c (S l)), (4, .c (S (34 :: escs (l.take i)))), (5, .c (I i))], o := [], n := n }

theorem sp_round (cf : CallF) (k : Nat) (l : List UInt8) (hl : l.length ≤ 1048576) (i : Nat) (hi : i < l.length) (h1 : ¬ l[i] < 32) (h2 : ¬ 126 < l[i]) (n : Nat) :
    ∃ n', exC cf k spec_QuoteText.l0 (spS l i n) = some (.normal, spS l (i + 1) n') := by
  have e1 : ¬ ((l[i].toNat : Int) < 32) := fun h => h1 ((u8_lt _ 32).1 h)
  have e2 : ¬ ((126 : Int) < (l[i].toNat : Int)) := fun h => h2 ((u8_lt 126 _).1 h)
  have e4 : IntKind.i64.wrap ((i : Int) + 1) = ((i + 1 : Nat) : Int) := wrap_i64 (by omega) (by omega)
  have e5 := take_drop1 l i hi
  have e6 := escs_take hi
  have hz := escs_len (l.take i)
  rw [List.length_take] at hz
  have p1 : (0 : Int) ≤ (i : Int) + 1 := by omega
  have p2 : i + 1 ≤ l.length := by omega
  by_cases h34 : l[i] = 34
  · have e7 : esc 34 = [92, 34] := rfl
    simp (disch := (first | omega | (simp; done) | (simp; omega))) [spS, spec_QuoteText.l0, hi, bs_get, e1, e2, h34, e4, e5, e6, p1, p2, e7]
  · by_cases h92 : l[i] = 92
    · have e7 : esc 92 = [92, 92] := rfl
      simp (disch := (first | omega | (simp; done) | (simp; omega))) [spS, spec_QuoteText.l0, hi, bs_get, e1, e2, h92, e4, e5, e6, p1, p2, e7]
    · have e7 : esc l[i] = [l[i]] := by simp [esc, h34, h92]
      have f1 : ¬ ((l[i].toNat : Int) = 34) := fun h => h34 ((u8_eq _ 34).1 h)
      have f2 : ¬ ((l[i].toNat : Int) = 92) := fun h => h92 ((u8_eq _ 92).1 h)
      have g1 : ¬ (l[i].toNat = 34) := by omega
      have g2 : ¬ (l[i].toNat = 92) := by omega
      simp (disch := (first | omega | (simp; done) | (simp; omega))) [spS, spec_QuoteText.l0, hi, bs_get, e1, e2, f1, f2, g1, g2, e4, e5, e6, p1, p2, e7]

def imS (l : List UInt8) (i : Nat) (x : Nat × Nat) : St := { t := [(0, .c (S l)), (4, .c (.row 6 x.2 0 (34 :: escs (l.take i)).length)), (5, .c (I i))], o := [(6, ⟨x.2, 1, true, false, brow (34 :: escs (l.take i))⟩)], n := x.1 }

theorem im_round (cf : CallF) (k : Nat) (l : List UInt8) (hl : l.length ≤ 1048576) (i : Nat) (hi : i < l.length) (h1 : ¬ l[i] < 32) (h2 : ¬ 126 < l[i]) (x : Nat × Nat) :
    ∃ y, exC cf k impl_QuoteText.l0 (imS l i x) = some (.normal, imS l (i + 1) y) := by
  have e1 : ¬ ((l[i].toNat : Int) < 32) := fun h => h1 ((u8_lt _ 32).1 h)
  have e2 : ¬ ((126 : Int) < (l[i].toNat : Int)) := fun h => h2 ((u8_lt 126 _).1 h)
  have e4 : IntKind.i64.wrap ((i : Int) + 1) = ((i + 1 : Nat) : Int) := wrap_i64 (by omega) (by omega)
  have e6 := escs_take hi
  have hz := escs_len (l.take i)
  rw [List.length_take] at hz
  by_cases h34 : l[i] = 34
  · have e7 : esc 34 = [92, 34] := rfl
    have e8 : [[T.int .u8 92]] = brow [92] := rfl
    have e9 : [[T.int .u8 34]] = brow [34] := rfl
    simp (disch := (first | omega | (simp; done) | (simp; omega))) [imS, impl_QuoteText.l0, hi, bs_get, e1, e2, h34, e4, e6, e7, e8, e9, ite_le, List.take_of_length_le, Prod.exists]
  · by_cases h92 : l[i] = 92
    · have e7 : esc 92 = [92, 92] := rfl
      have e8 : [[T.int .u8 92]] = brow [92] := rfl
      simp (disch := (first | omega | (simp; done) | (simp; omega))) [imS, impl_QuoteText.l0, hi, bs_get, e1, e2, h92, e4, e6, e7, e8, ite_le, List.take_of_length_le, Prod.exists]
    · have e7 : esc l[i] = [l[i]] := by simp [esc, h34, h92]
      have f1 : ¬ ((l[i].toNat : Int) = 34) := fun h => h34 ((u8_eq _ 34).1 h)
      have f2 : ¬ ((l[i].toNat : Int) = 92) := fun h => h92 ((u8_eq _ 92).1 h)
      have e8 : [[T.int .u8 (l[i].toNat : Int)]] = brow [l[i]] := rfl
      simp (disch := (first | omega | (simp; done) | (simp; omega))) [imS, impl_QuoteText.l0, hi, bs_get, e1, e2, f1, f2, e4, e6, e7, e8, ite_le, List.take_of_length_le, Prod.exists]

def bad (b : UInt8) : Bool := decide (b < 32) || decide (126 < b)
def quoted (l : List UInt8) : List UInt8 × Bool := if l.any bad then ([], false) else if 60 < l.length then ([], false) else (34 :: (escs l ++ [34]), true)

theorem bad_split (l : List UInt8) : ∃ n, n ≤ l.length ∧ (∀ i (h : i < l.length), i < n → ¬ l[i] < 32 ∧ ¬ 126 < l[i]) ∧ ((n = l.length ∧ l.any bad = false) ∨ (∃ h : n < l.length, (l[n] < 32 ∨ 126 < l[n]) ∧ l.any bad = true)) := by
  induction l with
  | nil => exact ⟨0, Nat.le_refl _, fun i h => by simp at h, .inl ⟨rfl, rfl⟩⟩
  | cons b l ih =>
    by_cases hb : b < 32 ∨ 126 < b
    · exact ⟨0, by simp, fun i _ h => by omega, .inr ⟨by simp, hb, by simp [bad]; exact .inl hb⟩⟩
    · obtain ⟨n, h1, h2, h3⟩ := ih
      refine ⟨n + 1, by simpa using h1, ?_, ?_⟩
      · intro i h hi
        cases i with
        | zero => simp; exact ⟨by simpa using fun q => hb (.inl q), by simpa using fun q => hb (.inr q)⟩
        | succ i => simpa using h2 i (by simpa using h) (by omega)
      · rcases h3 with ⟨rfl, h⟩ | ⟨h, q1, q2⟩
        · left; refine ⟨rfl, ?_⟩
          have : bad b = false := by simp [bad]; exact ⟨by simpa using fun q => hb (.inl q), by simpa using fun q => hb (.inr q)⟩
          simp [List.any_cons, this]; simpa using h
        · right; exact ⟨by simpa using h, by simpa using q1, by simp [List.any_cons]; right; simpa using q2⟩

def M : Nat → Option Body := fun f => if f = 348 then some (.code laws_FnExactQuoteText.m) else if f = 319 then some (.code spec_QuoteText.m) else if f = 127 then some (.code impl_QuoteText.m) else none

theorem sp_run (l : List UInt8) (hl : l.length ≤ 1048576) : run M 319 [.c (S l)] [] = some (.tup [.c (S (quoted l).1), .c (.bool (quoted l).2)], []) := by
  obtain ⟨n, hn, hgood, hend⟩ := bad_split l
  have hz := escs_len l
  refine run_code (b := spec_QuoteText.m) rfl ⟨n + 1, ?_⟩
  obtain ⟨r, hr, hp⟩ := loop_inv (f := exC (run M) (n + 1) spec_QuoteText.l0) (spS l) (fun r => if l.any bad then ∃ m, r = (.ret, { t := [(2, .c (S [])), (3, .c (.bool false))], o := [], n := m }) else ∃ m, r = (.exit 0, { t := [(0, .c (S l)), (4, .c (S (34 :: escs l))), (5, .c (I l.length)), (9, .c (.bool false))], o := [], n := m })) n
    (fun i hi x => sp_round _ _ l hl i (by omega) (hgood i (by omega) hi).1 (hgood i (by omega) hi).2 x)
    (by
      intro x
      rcases hend with ⟨rfl, h⟩ | ⟨h1, h2, h3⟩
      · simp [spS, spec_QuoteText.l0, h]
      · rcases h2 with h2 | h2
        · have e1 : ((l[n].toNat : Int) < 32) := (u8_lt _ 32).2 h2
          simp [spS, spec_QuoteText.l0, h1, h3, bs_get, e1]
        · have e1 : ((126 : Int) < (l[n].toNat : Int)) := (u8_lt 126 _).2 h2
          have e2 : ¬ ((l[n].toNat : Int) < 32) := by omega
          simp [spS, spec_QuoteText.l0, h1, h3, bs_get, e1, e2])
    (n + 1) (by omega) 65
  simp [spS, escs] at hr
  cases hb : l.any bad with
  | true =>
    rw [hb, if_pos rfl] at hp
    obtain ⟨m, rfl⟩ := hp
    simp [exB, spec_QuoteText.m, spec_QuoteText.b, List.range_succ, hr, quoted, hb]
  | false =>
    rw [hb, if_neg (by simp)] at hp
    obtain ⟨m, rfl⟩ := hp
    by_cases h60 : 60 < l.length
    · have e1 : (60 : Int) < (l.length : Int) := by omega
      simp [exB, spec_QuoteText.m, spec_QuoteText.b, List.range_succ, hr, quoted, hb, h60, e1]
    · have e1 : ¬ (60 : Int) < (l.length : Int) := by omega
      simp (disch := (first | omega | (simp; done) | (simp; omega))) [exB, spec_QuoteText.m, spec_QuoteText.b, List.range_succ, hr, quoted, hb, h60, e1]

theorem im_run (l : List UInt8) (hl : l.length ≤ 1048576) : run M 127 [.c (S l)] [] = some (.tup [.c (S (quoted l).1), .c (.bool (quoted l).2)], []) := by
  obtain ⟨n, hn, hgood, hend⟩ := bad_split l
  have hz := escs_len l
  refine run_code (b := impl_QuoteText.m) rfl ⟨n + 1, ?_⟩
  obtain ⟨r, hr, hp⟩ := loop_inv (f := exC (run M) (n + 1) impl_QuoteText.l0) (imS l) (fun r => if l.any bad then ∃ m, r = (.ret, { t := [(2, .c (S [])), (3, .c (.bool false))], o := [], n := m }) else ∃ v m, r = (.exit 0, { t := [(0, .c (S l)), (4, .c (.row 6 v 0 ((escs l).length + 1))), (5, .c (I l.length)), (10, .c (.bool false))], o := [(6, ⟨v, 1, true, false, brow (34 :: escs l)⟩)], n := m })) n
    (fun i hi x => im_round _ _ l hl i (by omega) (hgood i (by omega) hi).1 (hgood i (by omega) hi).2 x)
    (by
      intro x
      rcases hend with ⟨rfl, h⟩ | ⟨h1, h2, h3⟩
      · simp [imS, impl_QuoteText.l0, h]
      · rcases h2 with h2 | h2
        · have e1 : ((l[n].toNat : Int) < 32) := (u8_lt _ 32).2 h2
          simp [imS, impl_QuoteText.l0, h1, h3, bs_get, e1]
        · have e1 : ((126 : Int) < (l[n].toNat : Int)) := (u8_lt 126 _).2 h2
          have e2 : ¬ ((l[n].toNat : Int) < 32) := by omega
          simp [imS, impl_QuoteText.l0, h1, h3, bs_get, e1, e2])
    (n + 1) (by omega) (81, 33)
  have e8 : [[T.int .u8 34]] = brow [34] := rfl
  simp [imS, escs] at hr
  cases hb : l.any bad with
  | true =>
    rw [hb, if_pos rfl] at hp
    obtain ⟨m, rfl⟩ := hp
    simp [exB, impl_QuoteText.m, impl_QuoteText.b, List.range_succ, e8, hr, quoted, hb]
  | false =>
    rw [hb, if_neg (by simp)] at hp
    obtain ⟨v, m, rfl⟩ := hp
    by_cases h60 : 60 < l.length
    · have e1 : (60 : Int) < (l.length : Int) := by omega
      simp [exB, impl_QuoteText.m, impl_QuoteText.b, List.range_succ, e8, hr, quoted, hb, h60, e1]
    · have e1 : ¬ (60 : Int) < (l.length : Int) := by omega
      simp (disch := (first | omega | (simp; done) | (simp; omega))) [exB, impl_QuoteText.m, impl_QuoteText.b, List.range_succ, hr, quoted, hb, h60, e1, ite_le, e8, List.take_of_length_le]

theorem law_run (l : List UInt8) : run M 348 [.c (S l)] [] = some (.c (.bool true), []) := by
  refine run_code (b := laws_FnExactQuoteText.m) rfl ⟨0, ?_⟩
  by_cases h : 1048576 < l.length
  · have e1 : (1048576 : Int) < (l.length : Int) := by omega
    simp [exB, laws_FnExactQuoteText.m, laws_FnExactQuoteText.b, List.range_succ, e1]
  · have e1 : ¬ (1048576 : Int) < (l.length : Int) := by omega
    have h1 := sp_run l (by omega)
    have h2 := im_run l (by omega)
    simp [exB, laws_FnExactQuoteText.m, laws_FnExactQuoteText.b, List.range_succ, e1, h1, h2]
end Mx
