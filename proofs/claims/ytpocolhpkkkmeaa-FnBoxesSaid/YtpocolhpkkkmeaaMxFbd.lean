/-
  Small codes: laws.big, laws.FnBoxes.
-/
import Derived.Test.YtpocolhpkkkmeaaMxFbb
import Derived.Test.YtpocolhpkkkmeaaMxFb
import Derived.Test.YtpocolhpkkkmeaaMxFbc
set_option linter.unusedSimpArgs false
set_option linter.unusedVariables false
namespace Mx
open Go
def laws_big.b : C := .seq (.reg [⟨some 2, .mv (.k (.bool false)), none⟩] [0] [])
  (.seq (.reg [⟨some 3, .mv (.t 0), none⟩,
    ⟨some 4, .len (.t 3), none⟩,
    ⟨some 5, .bin .gtr (.t 4) (.k (.int .i64 1048576)), none⟩,
    ⟨some 2, .mv (.t 5), none⟩] [2] [])
  (.ret))
def laws_big.m : Fn := { np := 1, body := laws_big.b, res := [.tmp 2] }
def laws_big.k (M : Nat → Option Body) : Prop := M 36 = some (.code laws_big.m)
def laws_FnBoxes.b : C := .seq (.reg [⟨some 2, .mv (.k (.bool false)), none⟩] [0] [])
  (.seq (.seq (.reg [⟨some 17, .mv (.t 0), none⟩,
    ⟨some 18, .call 36 [.t 17] [] [], none⟩] [0, 18] [])
  (.cond (.t 18) (.seq (.reg [⟨some 2, .mv (.k (.bool true)), none⟩] [2] [])
  (.ret)) (.skip)))
  (.seq (.reg [⟨some 19, .mv (.t 0), none⟩,
    ⟨some 20, .call 69 [.t 19] [] [], none⟩,
    ⟨some 3, .alloc [.int .i64 0, .str ⟨#[]⟩, .int .i64 0, .int .i64 0, .int .i64 0, .nils 4, .nils 1], none⟩,
    ⟨none, .store 7 (.t 3) (.t 20), none⟩] [0, 3] [3])
  (.seq (.reg [⟨some 21, .mv (.t 0), none⟩,
    ⟨some 22, .call 40 [.t 21] [] [], none⟩,
    ⟨some 4, .mv (.t 22), none⟩] [3, 4] [3])
  (.seq (.reg [⟨some 23, .build [.int .i64 0, .int .i64 0] [(0, 1, .k (.int .i64 60)), (1, 1, .k (.int .i64 1))], none⟩,
    ⟨some 5, .alloc [.int .i64 0, .int .i64 0], none⟩,
    ⟨none, .store 2 (.t 5) (.t 23), none⟩] [3, 4, 5] [3, 5])
  (.seq (.regd [⟨some 25, .load true 7 (.t 3), none⟩,
    ⟨some 26, .mv (.t 4), none⟩,
    ⟨some 27, .iaddr 1 (.t 26) (.k (.int .i64 0)), none⟩,
    ⟨some 28, .load false 1 (.t 27), none⟩,
    ⟨some 29, .bin .rem (.t 28) (.k (.int .i64 8)), none⟩,
    ⟨some 30, .load true 2 (.t 5), none⟩,
    ⟨some 31, .call 70 [.t 25, .k (.int .i64 77), .t 29, .k (.str ⟨#[110, 101, 119]⟩), .t 30] [] [], none⟩,
    ⟨some 24, .mv (.t 31), none⟩,
    ⟨some 32, .ext 0 (.t 24), none⟩,
    ⟨some 33, .ext 1 (.t 24), none⟩,
    ⟨some 6, .alloc [.int .i64 0, .str ⟨#[]⟩, .int .i64 0, .int .i64 0, .int .i64 0, .nils 4, .nils 1], none⟩,
    ⟨none, .store 7 (.t 6) (.t 32), none⟩,
    ⟨some 7, .mv (.t 33), none⟩] [[], [], [1], [1, 2], [1, 2, 3], [], List.range 6, List.range 7, List.range 8, List.range 8, [], List.range 9 ++ [10], List.range 12] [3, 5, 6, 7] [3, 5, 6])
  (.seq (.seq (.reg [⟨some 34, .mv (.t 7), none⟩,
    ⟨some 35, .faddr 5 (.t 3), none⟩,
    ⟨some 36, .load false 1 (.t 35), none⟩,
    ⟨some 37, .len (.t 36), none⟩,
    ⟨some 38, .bin .lss (.t 37) (.k (.int .i64 10)), none⟩,
    ⟨some 39, .beq true (.t 34) (.t 38), none⟩] [3, 5, 6, 7, 39] [3, 5, 6])
  (.cond (.t 39) (.seq (.reg [⟨some 2, .mv (.k (.bool false)), none⟩] [2] [])
  (.ret)) (.skip)))
  (.seq (.seq (.reg [⟨some 40, .mv (.t 7), none⟩,
    ⟨some 41, .not (.t 40), none⟩] [3, 5, 6, 41] [3, 5, 6])
  (.cond (.t 41) (.seq (.reg [⟨some 42, .load true 7 (.t 6), none⟩,
    ⟨some 43, .load true 7 (.t 3), none⟩,
    ⟨some 44, .call 71 [.t 42, .t 43] [] [], none⟩,
    ⟨some 2, .mv (.t 44), none⟩] [2] [])
  (.ret)) (.skip)))
  (.seq (.reg [⟨some 45, .load true 7 (.t 6), none⟩,
    ⟨some 46, .call 72 [.t 45, .k (.int .i64 77)] [] [], none⟩,
    ⟨some 8, .mv (.t 46), none⟩] [3, 5, 6, 8] [3, 5, 6])
  (.seq (.reg [⟨some 48, .load true 7 (.t 6), none⟩,
    ⟨some 49, .call 73 [.t 48, .k (.int .i64 77)] [] [], none⟩,
    ⟨some 47, .mv (.t 49), none⟩,
    ⟨some 50, .ext 0 (.t 47), none⟩,
    ⟨some 51, .ext 1 (.t 47), none⟩,
    ⟨some 9, .alloc [.int .i64 0, .str ⟨#[]⟩, .int .i64 0, .int .i64 0, .int .i64 0, .nils 4, .nils 1], none⟩,
    ⟨none, .store 7 (.t 9) (.t 50), none⟩,
    ⟨some 10, .mv (.t 51), none⟩] [3, 5, 6, 8, 9, 10] [3, 5, 6, 9])
  (.seq (.reg [⟨some 53, .load true 7 (.t 9), none⟩,
    ⟨some 54, .load true 2 (.t 5), none⟩,
    ⟨some 55, .call 70 [.t 53, .k (.int .i64 77), .k (.int .i64 0), .k (.str ⟨#[97, 103, 97, 105, 110]⟩), .t 54] [] [], none⟩,
    ⟨some 52, .mv (.t 55), none⟩,
    ⟨some 56, .ext 0 (.t 52), none⟩,
    ⟨some 57, .ext 1 (.t 52), none⟩,
    ⟨some 11, .alloc [.int .i64 0, .str ⟨#[]⟩, .int .i64 0, .int .i64 0, .int .i64 0, .nils 4, .nils 1], none⟩,
    ⟨none, .store 7 (.t 11) (.t 56), none⟩,
    ⟨some 12, .mv (.t 57), none⟩] [3, 5, 6, 8, 9, 10, 11, 12] [3, 5, 6, 9, 11])
  (.seq (.reg [⟨some 59, .load true 7 (.t 9), none⟩,
    ⟨some 60, .load true 2 (.t 5), none⟩,
    ⟨some 61, .call 70 [.t 59, .k (.int .i64 78), .k (.int .i64 0), .k (.str ⟨#[109, 111, 114, 101]⟩), .t 60] [] [], none⟩,
    ⟨some 58, .mv (.t 61), none⟩,
    ⟨some 62, .ext 0 (.t 58), none⟩,
    ⟨some 63, .ext 1 (.t 58), none⟩,
    ⟨some 13, .alloc [.int .i64 0, .str ⟨#[]⟩, .int .i64 0, .int .i64 0, .int .i64 0, .nils 4, .nils 1], none⟩,
    ⟨none, .store 7 (.t 13) (.t 62), none⟩,
    ⟨some 14, .mv (.t 63), none⟩] [3, 5, 6, 8, 9, 10, 11, 12, 13, 14] [3, 5, 6, 9, 11, 13])
  (.seq (.reg [⟨some 65, .load true 7 (.t 6), none⟩,
    ⟨some 66, .load true 2 (.t 5), none⟩,
    ⟨some 67, .call 70 [.t 65, .k (.int .i64 77), .k (.int .i64 0), .k (.str ⟨#[116, 119, 105, 99, 101]⟩), .t 66] [] [], none⟩,
    ⟨some 64, .mv (.t 67), none⟩,
    ⟨some 68, .ext 0 (.t 64), none⟩,
    ⟨some 69, .ext 1 (.t 64), none⟩,
    ⟨some 15, .alloc [.int .i64 0, .str ⟨#[]⟩, .int .i64 0, .int .i64 0, .int .i64 0, .nils 4, .nils 1], none⟩,
    ⟨none, .store 7 (.t 15) (.t 68), none⟩,
    ⟨some 16, .mv (.t 69), none⟩] [3, 6, 8, 9, 10, 11, 12, 13, 14, 16] [3, 6, 9, 11, 13])
  (.seq (.regd [⟨some 70, .mv (.t 8), none⟩,
    ⟨some 71, .faddr 5 (.t 3), none⟩,
    ⟨some 72, .load false 1 (.t 71), none⟩,
    ⟨some 73, .len (.t 72), none⟩,
    ⟨some 74, .bin .eql (.t 70) (.t 73), none⟩,
    ⟨some 75, .mv (.t 74), none⟩,
    ⟨some 76, .faddr 5 (.t 6), some (75, true)⟩,
    ⟨some 77, .load false 1 (.t 76), some (75, true)⟩,
    ⟨some 78, .mv (.t 8), some (75, true)⟩,
    ⟨some 79, .iaddr 4 (.t 77) (.t 78), some (75, true)⟩,
    ⟨some 80, .faddr 1 (.t 79), some (75, true)⟩,
    ⟨some 81, .load false 1 (.t 80), some (75, true)⟩,
    ⟨some 82, .faddr 4 (.t 3), some (75, true)⟩,
    ⟨some 83, .load false 1 (.t 82), some (75, true)⟩,
    ⟨some 84, .bin .eql (.t 81) (.t 83), some (75, true)⟩,
    ⟨some 85, .pick (.t 75) (.t 84) (.k (.bool false)), none⟩,
    ⟨some 86, .mv (.t 85), none⟩,
    ⟨some 87, .faddr 4 (.t 6), some (86, true)⟩,
    ⟨some 88, .load false 1 (.t 87), some (86, true)⟩,
    ⟨some 89, .faddr 4 (.t 3), some (86, true)⟩,
    ⟨some 90, .load false 1 (.t 89), some (86, true)⟩,
    ⟨some 91, .bin .add (.t 90) (.k (.int .i64 1)), some (86, true)⟩,
    ⟨some 92, .bin .eql (.t 88) (.t 91), some (86, true)⟩,
    ⟨some 93, .pick (.t 86) (.t 92) (.k (.bool false)), none⟩,
    ⟨some 94, .mv (.t 93), none⟩,
    ⟨some 95, .mv (.t 10), some (94, true)⟩,
    ⟨some 96, .pick (.t 94) (.t 95) (.k (.bool false)), none⟩,
    ⟨some 97, .mv (.t 96), none⟩,
    ⟨some 98, .load true 7 (.t 9), some (97, true)⟩,
    ⟨some 99, .call 72 [.t 98, .k (.int .i64 77)] [] [], some (97, true)⟩,
    ⟨some 100, .bin .eql (.t 99) (.k (.int .i64 (-1))), some (97, true)⟩,
    ⟨some 101, .pick (.t 97) (.t 100) (.k (.bool false)), none⟩,
    ⟨some 102, .mv (.t 101), none⟩,
    ⟨some 103, .mv (.t 12), some (102, true)⟩,
    ⟨some 104, .not (.t 103), some (102, true)⟩,
    ⟨some 105, .pick (.t 102) (.t 104) (.k (.bool false)), none⟩,
    ⟨some 106, .mv (.t 105), none⟩,
    ⟨some 107, .load true 7 (.t 11), some (106, true)⟩,
    ⟨some 108, .load true 7 (.t 9), some (106, true)⟩,
    ⟨some 109, .call 71 [.t 107, .t 108] [] [], some (106, true)⟩,
    ⟨some 110, .pick (.t 106) (.t 109) (.k (.bool false)), none⟩,
    ⟨some 111, .mv (.t 110), none⟩,
    ⟨some 112, .mv (.t 14), some (111, true)⟩,
    ⟨some 113, .pick (.t 111) (.t 112) (.k (.bool false)), none⟩,
    ⟨some 114, .mv (.t 113), none⟩,
    ⟨some 115, .faddr 5 (.t 13), some (114, true)⟩,
    ⟨some 116, .load false 1 (.t 115), some (114, true)⟩,
    ⟨some 117, .faddr 5 (.t 13), some (114, true)⟩,
    ⟨some 118, .load false 1 (.t 117), some (114, true)⟩,
    ⟨some 119, .len (.t 118), some (114, true)⟩,
    ⟨some 120, .bin .sub (.t 119) (.k (.int .i64 1)), some (114, true)⟩,
    ⟨some 121, .iaddr 4 (.t 116) (.t 120), some (114, true)⟩,
    ⟨some 122, .faddr 1 (.t 121), some (114, true)⟩,
    ⟨some 123, .load false 1 (.t 122), some (114, true)⟩,
    ⟨some 124, .faddr 4 (.t 3), some (114, true)⟩,
    ⟨some 125, .load false 1 (.t 124), some (114, true)⟩,
    ⟨some 126, .bin .add (.t 125) (.k (.int .i64 1)), some (114, true)⟩,
    ⟨some 127, .bin .eql (.t 123) (.t 126), some (114, true)⟩,
    ⟨some 128, .pick (.t 114) (.t 127) (.k (.bool false)), none⟩,
    ⟨some 129, .mv (.t 128), none⟩,
    ⟨some 130, .mv (.t 16), some (129, true)⟩,
    ⟨some 131, .not (.t 130), some (129, true)⟩,
    ⟨some 132, .pick (.t 129) (.t 131) (.k (.bool false)), none⟩,
    ⟨some 133, .mv (.t 132), none⟩,
    ⟨some 134, .load true 7 (.t 6), some (133, true)⟩,
    ⟨some 135, .call 74 [.t 134] [] [], some (133, true)⟩,
    ⟨some 136, .pick (.t 133) (.t 135) (.k (.bool false)), none⟩,
    ⟨some 137, .mv (.t 136), none⟩,
    ⟨some 138, .load true 7 (.t 9), some (137, true)⟩,
    ⟨some 139, .call 74 [.t 138] [] [], some (137, true)⟩,
    ⟨some 140, .pick (.t 137) (.t 139) (.k (.bool false)), none⟩,
    ⟨some 2, .mv (.t 140), none⟩] [[], [], [1], [1, 2], List.range 4, List.range 5, List.range 6, List.range 7, List.range 6, List.range 9, List.range 10, List.range 11, List.range 6, List.range 6 ++ [12], List.range 14, List.range 15, List.range 16, List.range 17, List.range 18, List.range 17, List.range 17 ++ [19], List.range 17 ++ [19, 20], List.range 22, List.range 23, List.range 24, List.range 25, List.range 26, List.range 27, List.range 28, List.range 29, List.range 30, List.range 31, List.range 32, List.range 33, List.range 34, List.range 35, List.range 36, List.range 37, List.range 37, List.range 39, List.range 40, List.range 41, List.range 42, List.range 43, List.range 44, List.range 45, List.range 46, List.range 45, List.range 45 ++ [47], List.range 45 ++ [47, 48], List.range 45 ++ [47, 48, 49], List.range 51, List.range 52, List.range 53, List.range 45, List.range 45 ++ [54], List.range 45 ++ [54, 55], List.range 57, List.range 58, List.range 59, List.range 60, List.range 61, List.range 62, List.range 63, List.range 64, List.range 65, List.range 66, List.range 67, List.range 68, List.range 69, List.range 70, List.range 71] [2] [])
  (.ret))))))))))))))
def laws_FnBoxes.m : Fn := { np := 1, body := laws_FnBoxes.b, res := [.tmp 2] }
def laws_FnBoxes.k (M : Nat → Option Body) : Prop := M 390 = some (.code laws_FnBoxes.m) ∧ laws_big.k M ∧ spec_DrawPlaces.k M ∧ spec_DrawBox.k M ∧ impl_AddMail.k M ∧ laws_sameBox.k M ∧ impl_MailAt.k M ∧ impl_TakeOut.k M ∧ impl_BoxOk.k M
end Mx

/-
  The law of boxes.
-/
namespace Mx
open Go
variable {M : Nat → Option Body}
theorem laws_big.says (h : laws_big.k M) (R : List (List T)) (hl : R.length ≤ 9223372036854775807) : run M 36 [.c (.sl false 1 R)] [] = some (.c (.bool (decide (1048576 < R.length))), []) := by
  refine run_code (b := laws_big.m) h ⟨0, ?_⟩
  simp (maxSteps := 1000000) [exB, laws_big.m, laws_big.b, List.range_succ, bs_get, setAt]
  omega
abbrev tNew : List UInt8 := [110, 101, 119]
abbrev tAgain : List UInt8 := [97, 103, 97, 105, 110]
abbrev tMore : List UInt8 := [109, 111, 114, 101]
abbrev tTwice : List UInt8 := [116, 119, 105, 99, 101]
set_option maxHeartbeats 4000000 in
set_option maxRecDepth 100000 in
theorem laws_FnBoxes.says (h : laws_FnBoxes.k M) (R : List (List T)) (hl : R.length ≤ 9223372036854775807) (hr : ∀ (i : Nat) (r : List T), R[i]? = some r → ∃ n : Int, r = [.int .u8 n]) :
    run M 390 [.c (.sl false 1 R)] [] = some (.c (.bool true), []) := by
  obtain ⟨h0, kbig, kpl, kbx, kadd, ksame, kat, kout, kok⟩ := h
  have hbig := laws_big.says kbig R hl
  refine run_code (b := laws_FnBoxes.m) h0 ⟨0, ?_⟩
  by_cases cb : 1048576 < R.length
  · rw [decide_eq_true cb] at hbig
    simp (maxSteps := 1000000) [exB, laws_FnBoxes.m, laws_FnBoxes.b, List.range_succ, bs_get, setAt, hbig]
  rw [decide_eq_false cb] at hbig
  have hR : Bytes R := ⟨by omega, hr⟩
  obtain ⟨b, hD, h2⟩ := spec_DrawBox.says kbx hR
  obtain ⟨rp, hp1, hp2, h3⟩ := spec_DrawPlaces.says kpl hR
  obtain ⟨p0, hp0, e0⟩ := hp2 (rp[0]'(by omega)) (List.getElem_mem _)
  obtain ⟨f, hf, ef⟩ := tmod_small p0 8 (by omega)
  simp only [Int.cast_ofNat_Int] at ef
  have hG := hD.good
  have hnx : 1 ≤ b.next ∧ b.next ≤ 15 := ⟨hG.next.1, by have := hD.nx; omega⟩
  have hm77 : ∀ m ∈ b.mails, m.gid ≠ 77 := fun m hm => by have := hD.m m hm; omega
  have hm78 : ∀ m ∈ b.mails, m.gid ≠ 78 := fun m hm => by have := hD.m m hm; omega
  have hg77 : ¬ (77 : Int) ∈ b.gone := fun hm => by have := hD.g _ hm; omega
  have hg78 : ¬ (78 : Int) ∈ b.gone := fun hm => by have := hD.g _ hm; omega
  have hst : stampOk 60 1 = true := by decide
  have h4 := impl_AddMail.says kadd b hG.inB 77 f tNew 60 1
  have e7 : (b.mails.map encMail).length = b.mails.length := by simp
  have e8 := irow_length b.gone
  by_cases hlen : b.mails.length < 10
  rotate_left
  · rw [add_full hlen] at h4
    have h5 := laws_sameBox.self ksame b hG.inB
    have hlen2 : ¬ (b.mails.length : Int) < 10 := by omega
    simp only [encBox, encBoxO, mails, ints, bs] at *
    generalize b.mails.map encMail = rm at *
    generalize irow b.gone = rg at *
    simp (maxSteps := 1000000) [exB, laws_FnBoxes.m, laws_FnBoxes.b, List.range_succ, bs_get, setAt, hbig, h2, h3, h4, h5, hp1, e0, ef, hlen, hlen2, e7, e8]
  · have hadd := add_yes hG (g := 77) (f := f) (x := tNew) (t := 60) (w := 1) (by omega) hm77 hg77 (by omega) (by decide) hst hlen (by omega)
    have hC := good_added hG (g := 77) (f := f) (x := tNew) (t := 60) (w := 1) (by omega) hm77 hg77 (by decide) hst hlen (by omega)
    obtain ⟨htake, hDg⟩ := take_added hG (g := 77) (f := f) (x := tNew) (t := 60) (w := 1) (by omega) hm77 hg77 (by decide) hst hlen (by omega) (by have := hD.gl; omega)
    rw [hadd] at h4
    have h5 := impl_MailAt.says kat _ 77 hC.inB.m
    rw [mailO_added hm77] at h5
    have h6 := impl_TakeOut.says kout _ hC.inB 77
    rw [htake] at h6
    have h7 := impl_AddMail.says kadd _ hDg.inB 77 0 tAgain 60 1
    rw [add_gone (by simp only; exact gput_mem.2 (.inl rfl))] at h7
    have h8 := impl_AddMail.says kadd _ hDg.inB 78 0 tMore 60 1
    rw [add_yes hDg (by omega) hm78 (fun hm => by rcases gput_mem.1 hm with q | q; omega; exact hg78 q) (by omega) (by decide) hst hlen (by simp only; omega)] at h8
    have h9 := impl_AddMail.says kadd _ hC.inB 77 0 tTwice 60 1
    rw [add_there (mailO_added hm77)] at h9
    have h10 := impl_MailAt.says kat _ 77 hDg.inB.m
    rw [mailO_none.2 hm77] at h10
    have h11 := laws_sameBox.self ksame _ hDg.inB
    have h12 := impl_BoxOk.says kok _ hC.inB.ok.1 hC.inB.ok.2.1 hC.inB.ok.2.2.1 hC.inB.ok.2.2.2
    rw [boxOk_iff.2 hC] at h12
    have h13 := impl_BoxOk.says kok _ hDg.inB.ok.1 hDg.inB.ok.2.1 hDg.inB.ok.2.2.1 hDg.inB.ok.2.2.2
    rw [boxOk_iff.2 hDg] at h13
    have hlen2 : (b.mails.length : Int) < 10 := by omega
    have e9 : IntKind.i64.wrap (b.next + 1) = b.next + 1 := wrap_i64 (by omega) (by omega)
    have e10 : IntKind.i64.wrap ((b.mails.length : Int) + 1 - 1) = b.mails.length := by rw [Int.add_sub_cancel]; exact wrap_i64 (by omega) (by omega)
    have e11 : IntKind.i64.wrap (b.mails.length : Int) = b.mails.length := wrap_i64 (by omega) (by omega)
    have e12 := irow_length (gput b.gone 77)
    simp only [added, intO, encBox, encBoxO, mails, ints, List.map_append, List.map_cons, List.map_nil, encMail, regs, S, bs, tNew, tAgain, tMore, tTwice] at *
    generalize (flagsNew f 60 1).map encReg = rf at *
    generalize (flagsNew 0 60 1).map encReg = rf0 at *
    generalize b.mails.map encMail = rm at *
    generalize irow b.gone = rg at *
    generalize irow (gput b.gone 77) = ru at *
    generalize hrc : rm ++ [[I 77, I b.next, .sl false 3 rf, .str ⟨List.toArray [110, 101, 119]⟩]] = rc at *
    generalize hre : rm ++ [[I 78, I (b.next + 1), .sl false 3 rf0, .str ⟨List.toArray [109, 111, 114, 101]⟩]] = re at *
    have q1 : ∀ hh, rc[b.mails.length]'hh = [I 77, I b.next, .sl false 3 rf, .str ⟨List.toArray [110, 101, 119]⟩] := by intro hh; subst hrc; simp [← e7]
    have q2 : rc.length = b.mails.length + 1 := by subst hrc; simp [e7]
    have q3 : ∀ hh, re[b.mails.length]'hh = [I 78, I (b.next + 1), .sl false 3 rf0, .str ⟨List.toArray [109, 111, 114, 101]⟩] := by intro hh; subst hre; simp [← e7]
    have q4 : re.length = b.mails.length + 1 := by subst hre; simp [e7]
    simp (maxSteps := 1000000) [exB, laws_FnBoxes.m, laws_FnBoxes.b, List.range_succ, bs_get, setAt, hbig, h2, h3, h4, h5, h6, h7, h8, h9, h10, h11, h12, h13, hp1, e0, ef, hlen, hlen2, e7, e8, e9, e10, e11, e12, q1, q2, q3, q4]
theorem laws_FnBoxes.row (h : laws_FnBoxes.k M) {as : List V} (ha : HasVs [.cell (.sl [.int .u8])] as) : run M 390 as [] = some (.c (.bool true), []) := by
  cases ha with | cons h0 ha =>
  cases ha
  cases h0 with | cell h0 =>
  cases h0 with | sl _ rows hl h1 h2 =>
  refine laws_FnBoxes.says h rows (Nat.le_trans hl (by decide)) fun i r hr => ?_
  have hlen := h1 i r hr
  match r, hlen with
  | [a], _ =>
    obtain ⟨n, rfl⟩ := has_int (h2 i 0 [a] (.int .u8) a hr rfl rfl)
    exact ⟨n, rfl⟩
end Mx
