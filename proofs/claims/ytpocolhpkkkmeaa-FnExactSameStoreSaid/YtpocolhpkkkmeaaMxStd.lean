/-
  Small codes: laws.toBoxS, laws.toStore, laws.szBoxS, laws.szStore, laws.eqBoxS, laws.eqStore.
-/
import Derived.Test.YtpocolhpkkkmeaaMxSt
import Derived.Test.YtpocolhpkkkmeaaMxStb
import Derived.Test.YtpocolhpkkkmeaaMxStc
set_option linter.unusedSimpArgs false
set_option linter.unusedVariables false
namespace Mx
open Go
def laws_toBoxS.l0 : C := .seq (.seq (.reg [⟨some 8, .mv (.t 4), none⟩,
    ⟨some 9, .mv (.t 0), none⟩,
    ⟨some 10, .len (.t 9), none⟩,
    ⟨some 11, .bin .lss (.t 8) (.t 10), none⟩] [0, 3, 4, 11] [7])
  (.cond (.t 11) (.skip) (.exit 0)))
  (.seq (.block 1 (.reg [⟨some 14, .mv (.t 3), none⟩,
    ⟨some 15, .mv (.t 4), none⟩,
    ⟨some 16, .mv (.t 0), none⟩,
    ⟨some 17, .mv (.t 4), none⟩,
    ⟨some 18, .iaddr 7 (.t 16) (.t 17), none⟩,
    ⟨some 19, .load true 7 (.t 18), none⟩,
    ⟨some 20, .call 18 [.t 19] [] [], none⟩,
    ⟨some 21, .iaddr 7 (.t 14) (.t 15), none⟩,
    ⟨none, .store 7 (.t 21) (.t 20), none⟩] [0, 3, 4] [7]))
  (.reg [⟨some 12, .mv (.t 4), none⟩,
    ⟨some 13, .bin .add (.t 12) (.k (.int .i64 1)), none⟩,
    ⟨some 4, .mv (.t 13), none⟩] [0, 3, 4] [7]))
def laws_toBoxS.b : C := .seq (.reg [⟨some 2, .nil 7, none⟩] [0] [])
  (.seq (.reg [⟨some 5, .mv (.t 0), none⟩,
    ⟨some 6, .len (.t 5), none⟩,
    ⟨some 7, .mks 7 96 [.int .i64 0, .str ⟨#[]⟩, .int .i64 0, .int .i64 0, .int .i64 0, .nils 4, .nils 1] (.t 6), none⟩,
    ⟨some 3, .mv (.t 7), none⟩] [0, 3] [7])
  (.seq (.seq (.reg [⟨some 4, .mv (.k (.int .i64 0)), none⟩] [0, 3, 4] [7])
  (.block 0 (.loop laws_toBoxS.l0)))
  (.seq (.reg [⟨some 22, .mv (.t 3), none⟩,
    ⟨some 2, .mv (.t 22), none⟩] [2] [2, 7])
  (.ret))))
def laws_toBoxS.m : Fn := { np := 1, body := laws_toBoxS.b, res := [.tmp 2] }
def laws_toBoxS.k (M : Nat → Option Body) : Prop := M 117 = some (.code laws_toBoxS.m) ∧ laws_toBox.k M
def laws_toStore.b : C := .seq (.reg [⟨some 1, .box (.t 0), none⟩,
    ⟨some 2, .alloc [.int .i64 0, .int .i64 0, .nils 7, .nils 1], none⟩] [1, 2] [1, 2, 11200, 11600])
  (.seq (.reg [⟨some 3, .alloc [.int .i64 0, .int .i64 0, .nils 7, .nils 1], none⟩] [1, 2, 3] [1, 2, 3, 11200, 11600])
  (.seq (.reg [⟨some 4, .faddr 0 (.t 1), none⟩,
    ⟨some 5, .load false 1 (.t 4), none⟩,
    ⟨some 6, .faddr 0 (.t 3), none⟩,
    ⟨none, .store 1 (.t 6) (.t 5), none⟩] [1, 2, 3] [1, 2, 3, 11200, 11600])
  (.seq (.reg [⟨some 7, .faddr 1 (.t 1), none⟩,
    ⟨some 8, .load false 1 (.t 7), none⟩,
    ⟨some 9, .faddr 1 (.t 3), none⟩,
    ⟨none, .store 1 (.t 9) (.t 8), none⟩] [1, 2, 3] [1, 2, 3, 11200, 11600])
  (.seq (.reg [⟨some 10, .faddr 2 (.t 1), none⟩,
    ⟨some 11, .load false 1 (.t 10), none⟩,
    ⟨some 12, .call 117 [.t 11] [] [(0, 11200)], none⟩,
    ⟨some 13, .faddr 2 (.t 3), none⟩,
    ⟨none, .store 1 (.t 13) (.t 12), none⟩] [1, 2, 3] [1, 2, 3, 11200, 11600])
  (.seq (.reg [⟨some 14, .faddr 3 (.t 1), none⟩,
    ⟨some 15, .load false 1 (.t 14), none⟩,
    ⟨some 16, .call 42 [.t 15] [] [(0, 11600)], none⟩,
    ⟨some 17, .faddr 3 (.t 3), none⟩,
    ⟨none, .store 1 (.t 17) (.t 16), none⟩] [2, 3] [2, 3, 11200, 11600])
  (.seq (.reg [⟨some 18, .load true 4 (.t 3), none⟩,
    ⟨none, .store 4 (.t 2) (.t 18), none⟩] [2] [2, 11200, 11600])
  (.ret)))))))
def laws_toStore.m : Fn := { np := 1, body := laws_toStore.b, res := [.cell 2 true 4] }
def laws_toStore.k (M : Nat → Option Body) : Prop := M 30 = some (.code laws_toStore.m) ∧ laws_toIntS.k M ∧ laws_toBoxS.k M
def laws_szBoxS.l0 : C := .seq (.seq (.reg [⟨some 12, .mv (.t 5), none⟩,
    ⟨some 13, .mv (.t 0), none⟩,
    ⟨some 14, .len (.t 13), none⟩,
    ⟨some 15, .bin .lss (.t 12) (.t 14), none⟩] [0, 1, 5, 15] [])
  (.cond (.t 15) (.skip) (.exit 0)))
  (.seq (.block 1 (.seq (.reg [⟨some 18, .mv (.t 0), none⟩,
    ⟨some 19, .mv (.t 5), none⟩,
    ⟨some 20, .iaddr 7 (.t 18) (.t 19), none⟩,
    ⟨some 21, .load true 7 (.t 20), none⟩,
    ⟨some 22, .mv (.t 1), none⟩,
    ⟨some 23, .call 17 [.t 21, .t 22] [] [], none⟩,
    ⟨some 1, .mv (.t 23), none⟩] [0, 1, 5] [])
  (.seq (.reg [⟨some 24, .mv (.t 1), none⟩,
    ⟨some 25, .bin .lss (.t 24) (.k (.int .i64 0)), none⟩] [0, 1, 5, 25] [])
  (.cond (.t 25) (.seq (.reg [⟨some 4, .mv (.k (.int .i64 (-1))), none⟩] [4] [])
  (.ret)) (.skip)))))
  (.reg [⟨some 16, .mv (.t 5), none⟩,
    ⟨some 17, .bin .add (.t 16) (.k (.int .i64 1)), none⟩,
    ⟨some 5, .mv (.t 17), none⟩] [0, 1, 5] []))
def laws_szBoxS.b : C := .seq (.reg [⟨some 4, .mv (.k (.int .i64 0)), none⟩] [0, 1] [])
  (.seq (.reg [⟨some 6, .mv (.t 1), none⟩,
    ⟨some 7, .mv (.t 0), none⟩,
    ⟨some 8, .len (.t 7), none⟩,
    ⟨some 9, .bin .sub (.t 6) (.t 8), none⟩,
    ⟨some 1, .mv (.t 9), none⟩] [0, 1] [])
  (.seq (.seq (.reg [⟨some 10, .mv (.t 1), none⟩,
    ⟨some 11, .bin .lss (.t 10) (.k (.int .i64 0)), none⟩] [0, 1, 11] [])
  (.cond (.t 11) (.seq (.reg [⟨some 4, .mv (.k (.int .i64 (-1))), none⟩] [4] [])
  (.ret)) (.skip)))
  (.seq (.seq (.reg [⟨some 5, .mv (.k (.int .i64 0)), none⟩] [0, 1, 5] [])
  (.block 0 (.loop laws_szBoxS.l0)))
  (.seq (.reg [⟨some 26, .mv (.t 1), none⟩,
    ⟨some 4, .mv (.t 26), none⟩] [4] [])
  (.ret)))))
def laws_szBoxS.m : Fn := { np := 2, body := laws_szBoxS.b, res := [.tmp 4] }
def laws_szBoxS.k (M : Nat → Option Body) : Prop := M 115 = some (.code laws_szBoxS.m) ∧ laws_szBox.k M
def laws_szStore.b : C := .seq (.reg [⟨some 2, .box (.t 0), none⟩,
    ⟨some 4, .mv (.k (.int .i64 0)), none⟩] [1, 2] [2])
  (.seq (.reg [⟨some 5, .faddr 2 (.t 2), none⟩,
    ⟨some 6, .load false 1 (.t 5), none⟩,
    ⟨some 7, .mv (.t 1), none⟩,
    ⟨some 8, .call 115 [.t 6, .t 7] [] [], none⟩,
    ⟨some 1, .mv (.t 8), none⟩] [1, 2] [2])
  (.seq (.seq (.reg [⟨some 9, .mv (.t 1), none⟩,
    ⟨some 10, .bin .lss (.t 9) (.k (.int .i64 0)), none⟩] [1, 2, 10] [2])
  (.cond (.t 10) (.seq (.reg [⟨some 4, .mv (.k (.int .i64 (-1))), none⟩] [4] [])
  (.ret)) (.skip)))
  (.seq (.reg [⟨some 11, .faddr 3 (.t 2), none⟩,
    ⟨some 12, .load false 1 (.t 11), none⟩,
    ⟨some 13, .mv (.t 1), none⟩,
    ⟨some 14, .call 108 [.t 12, .t 13] [] [], none⟩,
    ⟨some 1, .mv (.t 14), none⟩] [1] [])
  (.seq (.seq (.reg [⟨some 15, .mv (.t 1), none⟩,
    ⟨some 16, .bin .lss (.t 15) (.k (.int .i64 0)), none⟩] [1, 16] [])
  (.cond (.t 16) (.seq (.reg [⟨some 4, .mv (.k (.int .i64 (-1))), none⟩] [4] [])
  (.ret)) (.skip)))
  (.seq (.reg [⟨some 17, .mv (.t 1), none⟩,
    ⟨some 4, .mv (.t 17), none⟩] [4] [])
  (.ret))))))
def laws_szStore.m : Fn := { np := 2, body := laws_szStore.b, res := [.tmp 4] }
def laws_szStore.k (M : Nat → Option Body) : Prop := M 29 = some (.code laws_szStore.m) ∧ laws_szIntS.k M ∧ laws_szBoxS.k M
def laws_eqBoxS.l0 : C := .seq (.seq (.reg [⟨some 11, .mv (.t 5), none⟩,
    ⟨some 12, .mv (.t 0), none⟩,
    ⟨some 13, .len (.t 12), none⟩,
    ⟨some 14, .bin .lss (.t 11) (.t 13), none⟩] [0, 1, 5, 14] [])
  (.cond (.t 14) (.skip) (.exit 0)))
  (.seq (.block 1 (.seq (.regd [⟨some 17, .mv (.t 0), none⟩,
    ⟨some 18, .mv (.t 5), none⟩,
    ⟨some 19, .iaddr 7 (.t 17) (.t 18), none⟩,
    ⟨some 20, .load true 7 (.t 19), none⟩,
    ⟨some 21, .mv (.t 1), none⟩,
    ⟨some 22, .mv (.t 5), none⟩,
    ⟨some 23, .iaddr 7 (.t 21) (.t 22), none⟩,
    ⟨some 24, .load true 7 (.t 23), none⟩,
    ⟨some 25, .call 21 [.t 20, .t 24] [] [], none⟩,
    ⟨some 26, .not (.t 25), none⟩] [[], [], [0, 1], [0, 1, 2], [], [], [4, 5], [4, 5, 6], [0, 1, 2, 3, 4, 5, 6, 7], [0, 1, 2, 3, 4, 5, 6, 7, 8]] [0, 1, 5, 26] [])
  (.cond (.t 26) (.seq (.reg [⟨some 4, .mv (.k (.bool false)), none⟩] [4] [])
  (.ret)) (.skip))))
  (.reg [⟨some 15, .mv (.t 5), none⟩,
    ⟨some 16, .bin .add (.t 15) (.k (.int .i64 1)), none⟩,
    ⟨some 5, .mv (.t 16), none⟩] [0, 1, 5] []))
def laws_eqBoxS.b : C := .seq (.reg [⟨some 4, .mv (.k (.bool false)), none⟩] [0, 1] [])
  (.seq (.seq (.reg [⟨some 6, .mv (.t 0), none⟩,
    ⟨some 7, .len (.t 6), none⟩,
    ⟨some 8, .mv (.t 1), none⟩,
    ⟨some 9, .len (.t 8), none⟩,
    ⟨some 10, .bin .neq (.t 7) (.t 9), none⟩] [0, 1, 10] [])
  (.cond (.t 10) (.seq (.reg [⟨some 4, .mv (.k (.bool false)), none⟩] [4] [])
  (.ret)) (.skip)))
  (.seq (.seq (.reg [⟨some 5, .mv (.k (.int .i64 0)), none⟩] [0, 1, 5] [])
  (.block 0 (.loop laws_eqBoxS.l0)))
  (.seq (.reg [⟨some 4, .mv (.k (.bool true)), none⟩] [4] [])
  (.ret))))
def laws_eqBoxS.m : Fn := { np := 2, body := laws_eqBoxS.b, res := [.tmp 4] }
def laws_eqBoxS.k (M : Nat → Option Body) : Prop := M 121 = some (.code laws_eqBoxS.m) ∧ laws_eqBox.k M
def laws_eqStore.b : C := .seq (.reg [⟨some 2, .box (.t 0), none⟩,
    ⟨some 3, .box (.t 1), none⟩,
    ⟨some 4, .mv (.k (.bool false)), none⟩] [2, 3] [2, 3])
  (.seq (.seq (.reg [⟨some 5, .faddr 0 (.t 2), none⟩,
    ⟨some 6, .load false 1 (.t 5), none⟩,
    ⟨some 7, .faddr 0 (.t 3), none⟩,
    ⟨some 8, .load false 1 (.t 7), none⟩,
    ⟨some 9, .bin .neq (.t 6) (.t 8), none⟩] [2, 3, 9] [2, 3])
  (.cond (.t 9) (.seq (.reg [⟨some 4, .mv (.k (.bool false)), none⟩] [4] [])
  (.ret)) (.skip)))
  (.seq (.seq (.reg [⟨some 10, .faddr 1 (.t 2), none⟩,
    ⟨some 11, .load false 1 (.t 10), none⟩,
    ⟨some 12, .faddr 1 (.t 3), none⟩,
    ⟨some 13, .load false 1 (.t 12), none⟩,
    ⟨some 14, .bin .neq (.t 11) (.t 13), none⟩] [2, 3, 14] [2, 3])
  (.cond (.t 14) (.seq (.reg [⟨some 4, .mv (.k (.bool false)), none⟩] [4] [])
  (.ret)) (.skip)))
  (.seq (.seq (.reg [⟨some 15, .faddr 2 (.t 2), none⟩,
    ⟨some 16, .load false 1 (.t 15), none⟩,
    ⟨some 17, .faddr 2 (.t 3), none⟩,
    ⟨some 18, .load false 1 (.t 17), none⟩,
    ⟨some 19, .call 121 [.t 16, .t 18] [] [], none⟩,
    ⟨some 20, .not (.t 19), none⟩] [2, 3, 20] [2, 3])
  (.cond (.t 20) (.seq (.reg [⟨some 4, .mv (.k (.bool false)), none⟩] [4] [])
  (.ret)) (.skip)))
  (.seq (.seq (.reg [⟨some 21, .faddr 3 (.t 2), none⟩,
    ⟨some 22, .load false 1 (.t 21), none⟩,
    ⟨some 23, .faddr 3 (.t 3), none⟩,
    ⟨some 24, .load false 1 (.t 23), none⟩,
    ⟨some 25, .call 45 [.t 22, .t 24] [] [], none⟩,
    ⟨some 26, .not (.t 25), none⟩] [26] [])
  (.cond (.t 26) (.seq (.reg [⟨some 4, .mv (.k (.bool false)), none⟩] [4] [])
  (.ret)) (.skip)))
  (.seq (.reg [⟨some 4, .mv (.k (.bool true)), none⟩] [4] [])
  (.ret))))))
def laws_eqStore.m : Fn := { np := 2, body := laws_eqStore.b, res := [.tmp 4] }
def laws_eqStore.k (M : Nat → Option Body) : Prop := M 33 = some (.code laws_eqStore.m) ∧ laws_eqIntS.k M ∧ laws_eqBoxS.k M
end Mx

/-
  Stores: as trees; what is laid over, weighed, held against.
-/
namespace Mx
open Go
variable {M : Nat → Option Body}
structure Store where
  who : Int
  time : Int
  boxes : List Box
  gone : List Int
abbrev boxes (l : List Box) : T := .sl false 7 (l.map encBox)
abbrev encStore (s : Store) : List T := [I s.who, I s.time, boxes s.boxes, ints s.gone]
abbrev encStoreO (s : Store) : List T := [I s.who, I s.time, .sl true 7 (s.boxes.map encBox), .sl true 1 (irow s.gone)]
abbrev ctStore : List Ct := [.int .i64, .int .i64, .sl ctBox, .sl [.int .i64]]
def StoreFits (s : Store) : Prop := s.boxes.length ≤ maxLen ∧ s.gone.length ≤ maxLen ∧ ∀ b ∈ s.boxes, BoxFits b
theorem has_store {r : List T} (h : HasL ctStore r) : ∃ x : Store, r = encStore x ∧ StoreFits x := by
  match r, h with
  | [a, b, f, g], h =>
    obtain ⟨x1, rfl⟩ := has_int (h.2 0 _ a rfl rfl)
    obtain ⟨x3, rfl⟩ := has_int (h.2 1 _ b rfl rfl)
    obtain ⟨x6, rfl, h6, q6⟩ := has_list encBox BoxFits (fun r hr => has_box hr) (h.2 2 _ f rfl rfl)
    obtain ⟨x7, rfl, h7, _⟩ := has_list (fun n : Int => [I n]) (fun _ => True) (fun r hr => by
      match r, hr with
      | [a], hr => obtain ⟨n, rfl⟩ := has_int (hr.2 0 _ a rfl rfl); exact ⟨n, rfl, trivial⟩) (h.2 3 _ g rfl rfl)
    exact ⟨⟨x1, x3, x6, x7⟩, rfl, h6, h7, q6⟩
def wBoxes (l : List Box) : Nat := l.length + (l.map wBox).sum
def wStore (s : Store) : Nat := wBoxes s.boxes + s.gone.length
theorem wBox_le {l : List Box} {b : Box} (h : b ∈ l) : wBox b ≤ wBoxes l := by
  have := le_sum wBox l b h
  unfold wBoxes; omega
/-- what a row of a box weighs -/
def wRowB : List T → Nat
  | [_, .str s, _, _, _, .sl _ _ ms, .sl _ _ gs] => s.size + (ms.length + (ms.map wRow).sum) + gs.length
  | _ => 0
theorem wRowB_box (b : Box) : wRowB (encBox b) = wBox b := by
  have e : ((b.mails.map encMail).map wRow).sum = (b.mails.map wMail).sum := by
    rw [List.map_map]; congr 1; apply List.map_congr_left; intro m _; exact wRow_mail m
  show (bs b.name).size + ((b.mails.map encMail).length + ((b.mails.map encMail).map wRow).sum) + (irow b.gone).length = _
  rw [e, bs_size, List.length_map, irow_len]; rfl
theorem laws_szBoxS.says (h : laws_szBoxS.k M) (l : List Box) (hl : l.length ≤ maxLen) (hm : ∀ b ∈ l, BoxFits b) (k : Nat) (hk : k ≤ 1048576) :
    run M 115 [.c (boxes l), .c (I k)] [] = some (.c (I (if k < wBoxes l then -1 else (k : Int) - wBoxes l)), []) := by
  have hx : maxLen = 9223372036854775807 := rfl
  have := szS_says (M := M) (F := 115) (n := 7) (f := 17) h.1 (rows := l.map encBox) (by simp; omega) wRowB (by
    intro r hr
    obtain ⟨b, hbb, rfl⟩ := List.mem_map.1 hr
    refine ⟨rfl, rfl, fun k hk => ?_⟩
    rw [wRowB_box]
    exact laws_szBox.says h.2 b (hm b hbb) k hk) k hk
  have e : ((l.map encBox).map wRowB).sum = (l.map wBox).sum := by
    rw [List.map_map]; congr 1; apply List.map_congr_left; intro m _; exact wRowB_box m
  rw [e, List.length_map] at this
  exact this
theorem laws_szStore.says (h : laws_szStore.k M) (s : Store) (hs : StoreFits s) (k : Nat) (hk : k ≤ 1048576) : run M 29 [.a (encStore s), .c (I k)] [] = some (.c (I (if k < wStore s then -1 else (k : Int) - wStore s)), []) := by
  have hx : maxLen = 9223372036854775807 := rfl
  obtain ⟨f1, f2, f3⟩ := hs
  obtain ⟨h0, k2, k1⟩ := h
  have h1 := laws_szBoxS.says k1 s.boxes f1 f3 k hk
  refine run_code (b := laws_szStore.m) h0 ⟨0, ?_⟩
  by_cases c1 : k < wBoxes s.boxes
  · rw [if_pos c1] at h1
    rw [if_pos (show k < wStore s by unfold wStore; omega)]
    simp [exB, laws_szStore.m, laws_szStore.b, List.range_succ, h1]
  rw [if_neg c1] at h1
  have d1 : ¬ (k : Int) - wBoxes s.boxes < 0 := by omega
  have h2 := laws_szIntS.says k2 s.gone (by omega) ((k : Int) - wBoxes s.boxes) (by omega) (by omega)
  by_cases c3 : (k : Int) - wBoxes s.boxes < s.gone.length
  · rw [if_pos c3] at h2
    rw [if_pos (show k < wStore s by unfold wStore; omega)]
    simp [exB, laws_szStore.m, laws_szStore.b, List.range_succ, d1, h1, h2]
  · rw [if_neg c3] at h2
    have d3 : ¬ (k : Int) - wBoxes s.boxes - s.gone.length < 0 := by omega
    rw [if_neg (show ¬ k < wStore s by unfold wStore; omega)]
    have e4 : (k : Int) - (wStore s : Nat) = (k : Int) - wBoxes s.boxes - s.gone.length := by unfold wStore; omega
    rw [e4]
    simp [exB, laws_szStore.m, laws_szStore.b, List.range_succ, d1, d3, h1, h2]
theorem laws_toBoxS.says (h : laws_toBoxS.k M) (l : List Box) (hl : wBoxes l ≤ 1048576) : run M 117 [.c (boxes l)] [] = some (.c (.sl true 7 (l.map encBox)), []) := by
  refine toS_says (M := M) (F := 117) (n := 7) (by' := 96) (z := [.int .i64 0, .str ⟨#[]⟩, .int .i64 0, .int .i64 0, .int .i64 0, .nils 4, .nils 1]) (f := 18) h.1 rfl (by simp; unfold wBoxes at hl; omega) (by omega) (fun r hr => ?_)
  obtain ⟨x, hx, rfl⟩ := List.mem_map.1 hr
  exact ⟨rfl, rfl, _, laws_toBox.says h.2 x (Nat.le_trans (wBox_le hx) hl), rfl, rfl⟩
theorem laws_toStore.says (h : laws_toStore.k M) (s : Store) (hs : wStore s ≤ 1048576) : run M 30 [.a (encStore s)] [] = some (.a (encStoreO s), []) := by
  obtain ⟨h0, k1, k2⟩ := h
  have h1 := laws_toIntS.says k1 s.gone (by unfold wStore at hs; omega)
  have h2 := laws_toBoxS.says k2 s.boxes (by unfold wStore at hs; omega)
  refine run_code (b := laws_toStore.m) h0 ⟨0, ?_⟩
  simp [exB, laws_toStore.m, laws_toStore.b, List.range_succ, h1, h2, setAt, List.take_of_length_le]
theorem laws_eqBoxS.says (h : laws_eqBoxS.k M) (l : List Box) (hl : wBoxes l ≤ 1048576) : run M 121 [.c (boxes l), .c (boxes l)] [] = some (.c (.bool true), []) := by
  refine eqS_says (M := M) (F := 121) (n := 7) (f := 21) h.1 (by simp; unfold wBoxes at hl; omega) (fun r hr => ?_)
  obtain ⟨x, hx, rfl⟩ := List.mem_map.1 hr
  exact ⟨rfl, rfl, laws_eqBox.says h.2 x (Nat.le_trans (wBox_le hx) hl)⟩
theorem laws_eqStore.says (h : laws_eqStore.k M) (s : Store) (hs : wStore s ≤ 1048576) : run M 33 [.a (encStore s), .a (encStore s)] [] = some (.c (.bool true), []) := by
  obtain ⟨h0, k1, k2⟩ := h
  have h1 := laws_eqIntS.says k1 s.gone (by unfold wStore at hs; omega)
  have h2 := laws_eqBoxS.says k2 s.boxes (by unfold wStore at hs; omega)
  refine run_code (b := laws_eqStore.m) h0 ⟨0, ?_⟩
  simp [exB, laws_eqStore.m, laws_eqStore.b, List.range_succ, h1, h2]
end Mx

/-
  Small codes: slices.IndexFunc[[]impl.Box,impl.Box], impl.BoxNamed$1, impl.BoxNamed, impl.isLate, impl.StoreOk, spec.BoxNamed, spec.l07Times, spec.StoreOk.
-/
namespace Mx
open Go
def slices_IndexFunc_impl_Box_impl_Box.l0 : C := .seq (.reg [⟨some 9, .bin .lss (.t 8) (.t 7), none⟩] [0, 1, 7, 8, 9] [])
  (.seq (.cond (.t 9) (.skip) (.exit 0))
  (.seq (.block 1 (.seq (.reg [⟨some 10, .mv (.t 8), none⟩,
    ⟨some 5, .mv (.t 10), none⟩] [0, 1, 5, 7, 8] [])
  (.seq (.reg [⟨some 11, .mv (.t 1), none⟩,
    ⟨some 12, .mv (.t 0), none⟩,
    ⟨some 13, .mv (.t 5), none⟩,
    ⟨some 14, .iaddr 7 (.t 12) (.t 13), none⟩,
    ⟨some 15, .load true 7 (.t 14), none⟩,
    ⟨some 16, .callv (.t 11) [.t 15], none⟩] [0, 1, 5, 7, 8, 16] [])
  (.cond (.t 16) (.seq (.reg [⟨some 17, .mv (.t 5), none⟩,
    ⟨some 4, .mv (.t 17), none⟩] [4] [])
  (.ret)) (.skip)))))
  (.reg [⟨some 18, .bin .add (.t 8) (.k (.int .i64 1)), none⟩,
    ⟨some 8, .mv (.t 18), none⟩] [0, 1, 7, 8] [])))
def slices_IndexFunc_impl_Box_impl_Box.b : C := .seq (.reg [⟨some 4, .mv (.k (.int .i64 0)), none⟩] [0, 1] [])
  (.seq (.seq (.reg [⟨some 6, .mv (.t 0), none⟩,
    ⟨some 7, .len (.t 6), none⟩,
    ⟨some 8, .mv (.k (.int .i64 0)), none⟩] [0, 1, 7, 8] [])
  (.block 0 (.loop slices_IndexFunc_impl_Box_impl_Box.l0)))
  (.seq (.reg [⟨some 4, .mv (.k (.int .i64 (-1))), none⟩] [4] [])
  (.ret)))
def slices_IndexFunc_impl_Box_impl_Box.m : Fn := { np := 2, body := slices_IndexFunc_impl_Box_impl_Box.b, res := [.tmp 4] }
def slices_IndexFunc_impl_Box_impl_Box.k (M : Nat → Option Body) : Prop := M 200 = some (.code slices_IndexFunc_impl_Box_impl_Box.m)
def impl_BoxNamed_1.b : C := .seq (.reg [⟨some 2, .box (.t 0), none⟩,
    ⟨some 3, .mv (.k (.bool false)), none⟩] [1, 2] [2])
  (.seq (.reg [⟨some 4, .faddr 1 (.t 2), none⟩,
    ⟨some 5, .load false 1 (.t 4), none⟩,
    ⟨some 6, .load false 1 (.t 1), none⟩,
    ⟨some 7, .bin .eql (.t 5) (.t 6), none⟩,
    ⟨some 3, .mv (.t 7), none⟩] [3] [])
  (.ret))
def impl_BoxNamed_1.m : Fn := { np := 2, body := impl_BoxNamed_1.b, res := [.tmp 3] }
def impl_BoxNamed_1.k (M : Nat → Option Body) : Prop := M 271 = some (.code impl_BoxNamed_1.m)
def impl_BoxNamed.b : C := .seq (.reg [⟨some 2, .box (.t 0), none⟩,
    ⟨some 3, .box (.t 1), none⟩,
    ⟨some 4, .mv (.k (.int .i64 0)), none⟩] [2, 3] [2, 3])
  (.seq (.reg [⟨some 5, .faddr 2 (.t 2), none⟩,
    ⟨some 6, .load false 1 (.t 5), none⟩,
    ⟨some 7, .mkfn 271 [.t 3], none⟩,
    ⟨some 8, .call 200 [.t 6, .t 7] [] [], none⟩,
    ⟨some 4, .mv (.t 8), none⟩] [4] [])
  (.ret))
def impl_BoxNamed.m : Fn := { np := 2, body := impl_BoxNamed.b, res := [.tmp 4] }
def impl_BoxNamed.k (M : Nat → Option Body) : Prop := M 228 = some (.code impl_BoxNamed.m) ∧ slices_IndexFunc_impl_Box_impl_Box.k M ∧ impl_BoxNamed_1.k M
def impl_isLate.l1 : C := .seq (.reg [⟨some 20, .bin .lss (.t 19) (.t 18), none⟩] [1, 2, 10, 11, 12, 17, 18, 19, 20] [2])
  (.seq (.cond (.t 20) (.skip) (.exit 2))
  (.seq (.block 3 (.seq (.reg [⟨some 21, .iaddr 3 (.t 17) (.t 19), none⟩,
    ⟨some 22, .load true 3 (.t 21), none⟩,
    ⟨some 8, .alloc [.int .i64 0, .int .i64 0, .int .i64 0], none⟩,
    ⟨none, .store 3 (.t 8) (.t 22), none⟩] [1, 2, 8, 10, 11, 12, 17, 18, 19] [2, 8])
  (.seq (.reg [⟨some 23, .faddr 1 (.t 8), none⟩,
    ⟨some 24, .faddr 0 (.t 23), none⟩,
    ⟨some 25, .load false 1 (.t 24), none⟩,
    ⟨some 26, .mv (.t 1), none⟩,
    ⟨some 27, .bin .gtr (.t 25) (.t 26), none⟩] [1, 2, 10, 11, 12, 17, 18, 19, 27] [2])
  (.cond (.t 27) (.seq (.reg [⟨some 4, .mv (.k (.bool true)), none⟩] [4] [])
  (.ret)) (.skip)))))
  (.reg [⟨some 28, .bin .add (.t 19) (.k (.int .i64 1)), none⟩,
    ⟨some 19, .mv (.t 28), none⟩] [1, 2, 10, 11, 12, 17, 18, 19] [2])))
def impl_isLate.l0 : C := .seq (.reg [⟨some 13, .bin .lss (.t 12) (.t 11), none⟩] [1, 2, 10, 11, 12, 13] [2])
  (.seq (.cond (.t 13) (.skip) (.exit 0))
  (.seq (.block 1 (.seq (.reg [⟨some 14, .iaddr 4 (.t 10) (.t 12), none⟩,
    ⟨some 15, .load true 4 (.t 14), none⟩,
    ⟨some 6, .alloc [.int .i64 0, .int .i64 0, .nils 3, .str ⟨#[]⟩], none⟩,
    ⟨none, .store 4 (.t 6) (.t 15), none⟩] [1, 2, 6, 10, 11, 12] [2, 6])
  (.seq (.reg [⟨some 16, .faddr 2 (.t 6), none⟩,
    ⟨some 17, .load false 1 (.t 16), none⟩,
    ⟨some 18, .len (.t 17), none⟩,
    ⟨some 19, .mv (.k (.int .i64 0)), none⟩] [1, 2, 10, 11, 12, 17, 18, 19] [2])
  (.block 2 (.loop impl_isLate.l1)))))
  (.reg [⟨some 29, .bin .add (.t 12) (.k (.int .i64 1)), none⟩,
    ⟨some 12, .mv (.t 29), none⟩] [1, 2, 10, 11, 12] [2])))
def impl_isLate.b : C := .seq (.reg [⟨some 2, .box (.t 0), none⟩,
    ⟨some 4, .mv (.k (.bool false)), none⟩] [1, 2] [2])
  (.seq (.seq (.reg [⟨some 9, .faddr 5 (.t 2), none⟩,
    ⟨some 10, .load false 1 (.t 9), none⟩,
    ⟨some 11, .len (.t 10), none⟩,
    ⟨some 12, .mv (.k (.int .i64 0)), none⟩] [1, 2, 10, 11, 12] [2])
  (.block 0 (.loop impl_isLate.l0)))
  (.seq (.reg [⟨some 30, .faddr 2 (.t 2), none⟩,
    ⟨some 31, .faddr 0 (.t 30), none⟩,
    ⟨some 32, .load false 1 (.t 31), none⟩,
    ⟨some 33, .mv (.t 1), none⟩,
    ⟨some 34, .bin .gtr (.t 32) (.t 33), none⟩,
    ⟨some 4, .mv (.t 34), none⟩] [4] [])
  (.ret)))
def impl_isLate.m : Fn := { np := 2, body := impl_isLate.b, res := [.tmp 4] }
def impl_isLate.k (M : Nat → Option Body) : Prop := M 229 = some (.code impl_isLate.m)
def impl_StoreOk.l1 : C := .seq (.reg [⟨some 83, .bin .lss (.t 82) (.t 81), none⟩] [1, 3, 32, 33, 34, 80, 81, 82, 83] [1, 30, 94])
  (.seq (.cond (.t 83) (.skip) (.exit 2))
  (.seq (.block 3 (.seq (.reg [⟨some 84, .iaddr 4 (.t 80) (.t 82), none⟩,
    ⟨some 85, .load true 4 (.t 84), none⟩,
    ⟨some 7, .alloc [.int .i64 0, .int .i64 0, .nils 3, .str ⟨#[]⟩], none⟩,
    ⟨none, .store 4 (.t 7) (.t 85), none⟩] [1, 3, 7, 32, 33, 34, 80, 81, 82] [1, 7, 30, 94])
  (.seq (.seq (.reg [⟨some 86, .mv (.t 3), none⟩,
    ⟨some 87, .faddr 0 (.t 7), none⟩,
    ⟨some 88, .load false 1 (.t 87), none⟩,
    ⟨some 89, .call 156 [.t 86, .t 88] [] [], none⟩] [1, 3, 7, 32, 33, 34, 80, 81, 82, 89] [1, 7, 30, 94])
  (.cond (.t 89) (.seq (.reg [⟨some 2, .mv (.k (.bool false)), none⟩] [2] [])
  (.ret)) (.skip)))
  (.reg [⟨some 90, .mv (.t 3), none⟩,
    ⟨some 91, .faddr 0 (.t 7), none⟩,
    ⟨some 92, .load false 1 (.t 91), none⟩,
    ⟨some 93, .bslice 1 1 [.int .i64 0] [(0, .t 92)], none⟩,
    ⟨some 94, .app 1 8 (.t 90) (.t 93), none⟩,
    ⟨some 3, .mv (.t 94), none⟩] [1, 3, 32, 33, 34, 80, 81, 82] [1, 30, 94]))))
  (.reg [⟨some 95, .bin .add (.t 82) (.k (.int .i64 1)), none⟩,
    ⟨some 82, .mv (.t 95), none⟩] [1, 3, 32, 33, 34, 80, 81, 82] [1, 30, 94])))
def impl_StoreOk.l0 : C := .seq (.reg [⟨some 35, .bin .lss (.t 34) (.t 33), none⟩] [1, 3, 32, 33, 34, 35] [1, 30, 94])
  (.seq (.cond (.t 35) (.skip) (.exit 0))
  (.seq (.block 1 (.seq (.reg [⟨some 36, .mv (.t 34), none⟩,
    ⟨some 37, .iaddr 7 (.t 32) (.t 34), none⟩,
    ⟨some 38, .load true 7 (.t 37), none⟩,
    ⟨some 5, .alloc [.int .i64 0, .str ⟨#[]⟩, .int .i64 0, .int .i64 0, .int .i64 0, .nils 4, .nils 1], none⟩,
    ⟨some 4, .mv (.t 36), none⟩,
    ⟨none, .store 7 (.t 5) (.t 38), none⟩] [1, 3, 4, 5, 32, 33, 34] [1, 5, 30, 94])
  (.seq (.seq (.regd [⟨some 39, .load true 7 (.t 5), none⟩,
    ⟨some 40, .call 74 [.t 39] [] [], none⟩,
    ⟨some 41, .not (.t 40), none⟩,
    ⟨some 42, .mv (.t 41), none⟩,
    ⟨some 43, .mv (.t 4), some (42, false)⟩,
    ⟨some 44, .bin .gtr (.t 43) (.k (.int .i64 0)), some (42, false)⟩,
    ⟨some 45, .mv (.t 44), some (42, false)⟩,
    ⟨some 46, .faddr 2 (.t 1), some (45, true)⟩,
    ⟨some 47, .load false 1 (.t 46), some (45, true)⟩,
    ⟨some 48, .mv (.t 4), some (45, true)⟩,
    ⟨some 49, .bin .sub (.t 48) (.k (.int .i64 1)), some (45, true)⟩,
    ⟨some 50, .iaddr 7 (.t 47) (.t 49), some (45, true)⟩,
    ⟨some 51, .faddr 0 (.t 50), some (45, true)⟩,
    ⟨some 52, .load false 1 (.t 51), some (45, true)⟩,
    ⟨some 53, .faddr 0 (.t 5), some (45, true)⟩,
    ⟨some 54, .load false 1 (.t 53), some (45, true)⟩,
    ⟨some 55, .bin .geq (.t 52) (.t 54), some (45, true)⟩,
    ⟨some 56, .pick (.t 45) (.t 55) (.k (.bool false)), some (42, false)⟩,
    ⟨some 57, .pick (.t 42) (.k (.bool true)) (.t 56), none⟩,
    ⟨some 58, .mv (.t 57), none⟩,
    ⟨some 59, .load true 4 (.t 1), some (58, false)⟩,
    ⟨some 60, .faddr 1 (.t 5), some (58, false)⟩,
    ⟨some 61, .load false 1 (.t 60), some (58, false)⟩,
    ⟨some 62, .call 228 [.t 59, .t 61] [] [], some (58, false)⟩,
    ⟨some 63, .mv (.t 4), some (58, false)⟩,
    ⟨some 64, .bin .neq (.t 62) (.t 63), some (58, false)⟩,
    ⟨some 65, .pick (.t 58) (.k (.bool true)) (.t 64), none⟩,
    ⟨some 66, .mv (.t 65), none⟩,
    ⟨some 67, .faddr 3 (.t 1), some (66, false)⟩,
    ⟨some 68, .load false 1 (.t 67), some (66, false)⟩,
    ⟨some 69, .faddr 0 (.t 5), some (66, false)⟩,
    ⟨some 70, .load false 1 (.t 69), some (66, false)⟩,
    ⟨some 71, .call 156 [.t 68, .t 70] [] [], some (66, false)⟩,
    ⟨some 72, .pick (.t 66) (.k (.bool true)) (.t 71), none⟩,
    ⟨some 73, .mv (.t 72), none⟩,
    ⟨some 74, .load true 7 (.t 5), some (73, false)⟩,
    ⟨some 75, .faddr 1 (.t 1), some (73, false)⟩,
    ⟨some 76, .load false 1 (.t 75), some (73, false)⟩,
    ⟨some 77, .call 229 [.t 74, .t 76] [] [], some (73, false)⟩,
    ⟨some 78, .pick (.t 73) (.k (.bool true)) (.t 77), none⟩] [[], [0], [0, 1], [0, 1, 2], List.range 4, List.range 5, List.range 6, List.range 7, List.range 8, List.range 7, List.range 7 ++ [9], List.range 11, List.range 12, List.range 13, List.range 7, List.range 7 ++ [14], List.range 16, List.range 17, List.range 18, List.range 19, List.range 20, List.range 20, List.range 20 ++ [21], List.range 23, List.range 20, List.range 25, List.range 26, List.range 27, List.range 28, List.range 29, List.range 28, List.range 28 ++ [30], List.range 32, List.range 33, List.range 34, List.range 35, List.range 35, List.range 35 ++ [36], List.range 38, List.range 39] [1, 3, 5, 32, 33, 34, 78] [1, 5, 30, 94])
  (.cond (.t 78) (.seq (.reg [⟨some 2, .mv (.k (.bool false)), none⟩] [2] [])
  (.ret)) (.skip)))
  (.seq (.reg [⟨some 79, .faddr 5 (.t 5), none⟩,
    ⟨some 80, .load false 1 (.t 79), none⟩,
    ⟨some 81, .len (.t 80), none⟩,
    ⟨some 82, .mv (.k (.int .i64 0)), none⟩] [1, 3, 32, 33, 34, 80, 81, 82] [1, 30, 94])
  (.block 2 (.loop impl_StoreOk.l1))))))
  (.reg [⟨some 96, .bin .add (.t 34) (.k (.int .i64 1)), none⟩,
    ⟨some 34, .mv (.t 96), none⟩] [1, 3, 32, 33, 34] [1, 30, 94])))
def impl_StoreOk.b : C := .seq (.reg [⟨some 1, .box (.t 0), none⟩,
    ⟨some 2, .mv (.k (.bool false)), none⟩] [1] [1])
  (.seq (.seq (.reg [⟨some 8, .faddr 0 (.t 1), none⟩,
    ⟨some 9, .load false 1 (.t 8), none⟩,
    ⟨some 10, .call 101 [.t 9, .k (.int .i64 1), .k (.int .i64 2)] [] [], none⟩,
    ⟨some 11, .not (.t 10), none⟩,
    ⟨some 12, .mv (.t 11), none⟩,
    ⟨some 13, .faddr 1 (.t 1), some (12, false)⟩,
    ⟨some 14, .load false 1 (.t 13), some (12, false)⟩,
    ⟨some 15, .call 101 [.t 14, .k (.int .i64 0), .k (.int .i64 100000)] [] [], some (12, false)⟩,
    ⟨some 16, .not (.t 15), some (12, false)⟩,
    ⟨some 17, .pick (.t 12) (.k (.bool true)) (.t 16), none⟩,
    ⟨some 18, .mv (.t 17), none⟩,
    ⟨some 19, .faddr 2 (.t 1), some (18, false)⟩,
    ⟨some 20, .load false 1 (.t 19), some (18, false)⟩,
    ⟨some 21, .len (.t 20), some (18, false)⟩,
    ⟨some 22, .bin .gtr (.t 21) (.k (.int .i64 5)), some (18, false)⟩,
    ⟨some 23, .pick (.t 18) (.k (.bool true)) (.t 22), none⟩,
    ⟨some 24, .mv (.t 23), none⟩,
    ⟨some 25, .faddr 3 (.t 1), some (24, false)⟩,
    ⟨some 26, .load false 1 (.t 25), some (24, false)⟩,
    ⟨some 27, .call 165 [.t 26, .k (.int .i64 20)] [] [], some (24, false)⟩,
    ⟨some 28, .not (.t 27), some (24, false)⟩,
    ⟨some 29, .pick (.t 24) (.k (.bool true)) (.t 28), none⟩] [1, 29] [1])
  (.cond (.t 29) (.seq (.reg [⟨some 2, .mv (.k (.bool false)), none⟩] [2] [])
  (.ret)) (.skip)))
  (.seq (.reg [⟨some 30, .bslice 1 0 [.int .i64 0] [], none⟩,
    ⟨some 3, .mv (.t 30), none⟩] [1, 3] [1, 30, 94])
  (.seq (.seq (.reg [⟨some 31, .faddr 2 (.t 1), none⟩,
    ⟨some 32, .load false 1 (.t 31), none⟩,
    ⟨some 33, .len (.t 32), none⟩,
    ⟨some 34, .mv (.k (.int .i64 0)), none⟩] [1, 3, 32, 33, 34] [1, 30, 94])
  (.block 0 (.loop impl_StoreOk.l0)))
  (.seq (.reg [⟨some 2, .mv (.k (.bool true)), none⟩] [2] [])
  (.ret)))))
def impl_StoreOk.m : Fn := { np := 1, body := impl_StoreOk.b, res := [.tmp 2] }
def impl_StoreOk.k (M : Nat → Option Body) : Prop := M 150 = some (.code impl_StoreOk.m) ∧ impl_BoxOk.k M ∧ impl_within.k M ∧ slices_Contains_int_int.k M ∧ impl_areGids.k M ∧ impl_BoxNamed.k M ∧ impl_isLate.k M
def spec_BoxNamed.l0 : C := .seq (.seq (.reg [⟨some 6, .mv (.t 5), none⟩,
    ⟨some 7, .faddr 2 (.t 2), none⟩,
    ⟨some 8, .load false 1 (.t 7), none⟩,
    ⟨some 9, .len (.t 8), none⟩,
    ⟨some 10, .bin .lss (.t 6) (.t 9), none⟩] [1, 2, 5, 10] [2])
  (.cond (.t 10) (.skip) (.exit 0)))
  (.seq (.block 1 (.seq (.reg [⟨some 13, .faddr 2 (.t 2), none⟩,
    ⟨some 14, .load false 1 (.t 13), none⟩,
    ⟨some 15, .mv (.t 5), none⟩,
    ⟨some 16, .iaddr 7 (.t 14) (.t 15), none⟩,
    ⟨some 17, .faddr 1 (.t 16), none⟩,
    ⟨some 18, .load false 1 (.t 17), none⟩,
    ⟨some 19, .mv (.t 1), none⟩,
    ⟨some 20, .bin .eql (.t 18) (.t 19), none⟩] [1, 2, 5, 20] [2])
  (.cond (.t 20) (.seq (.reg [⟨some 21, .mv (.t 5), none⟩,
    ⟨some 4, .mv (.t 21), none⟩] [4] [])
  (.ret)) (.skip))))
  (.reg [⟨some 11, .mv (.t 5), none⟩,
    ⟨some 12, .bin .add (.t 11) (.k (.int .i64 1)), none⟩,
    ⟨some 5, .mv (.t 12), none⟩] [1, 2, 5] [2]))
def spec_BoxNamed.b : C := .seq (.reg [⟨some 2, .box (.t 0), none⟩,
    ⟨some 4, .mv (.k (.int .i64 0)), none⟩] [1, 2] [2])
  (.seq (.seq (.reg [⟨some 5, .mv (.k (.int .i64 0)), none⟩] [1, 2, 5] [2])
  (.block 0 (.loop spec_BoxNamed.l0)))
  (.seq (.reg [⟨some 4, .mv (.k (.int .i64 (-1))), none⟩] [4] [])
  (.ret)))
def spec_BoxNamed.m : Fn := { np := 2, body := spec_BoxNamed.b, res := [.tmp 4] }
def spec_BoxNamed.k (M : Nat → Option Body) : Prop := M 226 = some (.code spec_BoxNamed.m)
def spec_l07Times.l1 : C := .seq (.seq (.reg [⟨some 19, .mv (.t 6), none⟩,
    ⟨some 20, .faddr 5 (.t 2), none⟩,
    ⟨some 21, .load false 1 (.t 20), none⟩,
    ⟨some 22, .mv (.t 5), none⟩,
    ⟨some 23, .iaddr 4 (.t 21) (.t 22), none⟩,
    ⟨some 24, .faddr 2 (.t 23), none⟩,
    ⟨some 25, .load false 1 (.t 24), none⟩,
    ⟨some 26, .len (.t 25), none⟩,
    ⟨some 27, .bin .lss (.t 19) (.t 26), none⟩] [1, 2, 5, 6, 27] [2])
  (.cond (.t 27) (.skip) (.exit 2)))
  (.seq (.block 3 (.seq (.reg [⟨some 30, .faddr 5 (.t 2), none⟩,
    ⟨some 31, .load false 1 (.t 30), none⟩,
    ⟨some 32, .mv (.t 5), none⟩,
    ⟨some 33, .iaddr 4 (.t 31) (.t 32), none⟩,
    ⟨some 34, .faddr 2 (.t 33), none⟩,
    ⟨some 35, .load false 1 (.t 34), none⟩,
    ⟨some 36, .mv (.t 6), none⟩,
    ⟨some 37, .iaddr 3 (.t 35) (.t 36), none⟩,
    ⟨some 38, .faddr 1 (.t 37), none⟩,
    ⟨some 39, .faddr 0 (.t 38), none⟩,
    ⟨some 40, .load false 1 (.t 39), none⟩,
    ⟨some 41, .mv (.t 1), none⟩,
    ⟨some 42, .bin .gtr (.t 40) (.t 41), none⟩] [1, 2, 5, 6, 42] [2])
  (.cond (.t 42) (.seq (.reg [⟨some 4, .mv (.k (.bool false)), none⟩] [4] [])
  (.ret)) (.skip))))
  (.reg [⟨some 28, .mv (.t 6), none⟩,
    ⟨some 29, .bin .add (.t 28) (.k (.int .i64 1)), none⟩,
    ⟨some 6, .mv (.t 29), none⟩] [1, 2, 5, 6] [2]))
def spec_l07Times.l0 : C := .seq (.seq (.reg [⟨some 12, .mv (.t 5), none⟩,
    ⟨some 13, .faddr 5 (.t 2), none⟩,
    ⟨some 14, .load false 1 (.t 13), none⟩,
    ⟨some 15, .len (.t 14), none⟩,
    ⟨some 16, .bin .lss (.t 12) (.t 15), none⟩] [1, 2, 5, 16] [2])
  (.cond (.t 16) (.skip) (.exit 0)))
  (.seq (.block 1 (.seq (.reg [⟨some 6, .mv (.k (.int .i64 0)), none⟩] [1, 2, 5, 6] [2])
  (.block 2 (.loop spec_l07Times.l1))))
  (.reg [⟨some 17, .mv (.t 5), none⟩,
    ⟨some 18, .bin .add (.t 17) (.k (.int .i64 1)), none⟩,
    ⟨some 5, .mv (.t 18), none⟩] [1, 2, 5] [2]))
def spec_l07Times.b : C := .seq (.reg [⟨some 2, .box (.t 0), none⟩,
    ⟨some 4, .mv (.k (.bool false)), none⟩] [1, 2] [2])
  (.seq (.seq (.reg [⟨some 7, .faddr 2 (.t 2), none⟩,
    ⟨some 8, .faddr 0 (.t 7), none⟩,
    ⟨some 9, .load false 1 (.t 8), none⟩,
    ⟨some 10, .mv (.t 1), none⟩,
    ⟨some 11, .bin .gtr (.t 9) (.t 10), none⟩] [1, 2, 11] [2])
  (.cond (.t 11) (.seq (.reg [⟨some 4, .mv (.k (.bool false)), none⟩] [4] [])
  (.ret)) (.skip)))
  (.seq (.seq (.reg [⟨some 5, .mv (.k (.int .i64 0)), none⟩] [1, 2, 5] [2])
  (.block 0 (.loop spec_l07Times.l0)))
  (.seq (.reg [⟨some 4, .mv (.k (.bool true)), none⟩] [4] [])
  (.ret))))
def spec_l07Times.m : Fn := { np := 2, body := spec_l07Times.b, res := [.tmp 4] }
def spec_l07Times.k (M : Nat → Option Body) : Prop := M 227 = some (.code spec_l07Times.m)
def spec_StoreOk.l1 : C := .seq (.seq (.reg [⟨some 83, .mv (.t 6), none⟩,
    ⟨some 84, .faddr 5 (.t 5), none⟩,
    ⟨some 85, .load false 1 (.t 84), none⟩,
    ⟨some 86, .len (.t 85), none⟩,
    ⟨some 87, .bin .lss (.t 83) (.t 86), none⟩] [1, 3, 4, 5, 6, 87] [1, 5, 29, 106])
  (.cond (.t 87) (.skip) (.exit 2)))
  (.seq (.block 3 (.seq (.seq (.reg [⟨some 90, .mv (.t 3), none⟩,
    ⟨some 91, .faddr 5 (.t 5), none⟩,
    ⟨some 92, .load false 1 (.t 91), none⟩,
    ⟨some 93, .mv (.t 6), none⟩,
    ⟨some 94, .iaddr 4 (.t 92) (.t 93), none⟩,
    ⟨some 95, .faddr 0 (.t 94), none⟩,
    ⟨some 96, .load false 1 (.t 95), none⟩,
    ⟨some 97, .call 132 [.t 90, .t 96] [] [], none⟩] [1, 3, 4, 5, 6, 97] [1, 5, 29, 106])
  (.cond (.t 97) (.seq (.reg [⟨some 2, .mv (.k (.bool false)), none⟩] [2] [])
  (.ret)) (.skip)))
  (.reg [⟨some 98, .mv (.t 3), none⟩,
    ⟨some 99, .faddr 5 (.t 5), none⟩,
    ⟨some 100, .load false 1 (.t 99), none⟩,
    ⟨some 101, .mv (.t 6), none⟩,
    ⟨some 102, .iaddr 4 (.t 100) (.t 101), none⟩,
    ⟨some 103, .faddr 0 (.t 102), none⟩,
    ⟨some 104, .load false 1 (.t 103), none⟩,
    ⟨some 105, .bslice 1 1 [.int .i64 0] [(0, .t 104)], none⟩,
    ⟨some 106, .app 1 8 (.t 98) (.t 105), none⟩,
    ⟨some 3, .mv (.t 106), none⟩] [1, 3, 4, 5, 6] [1, 5, 29, 106])))
  (.reg [⟨some 88, .mv (.t 6), none⟩,
    ⟨some 89, .bin .add (.t 88) (.k (.int .i64 1)), none⟩,
    ⟨some 6, .mv (.t 89), none⟩] [1, 3, 4, 5, 6] [1, 5, 29, 106]))
def spec_StoreOk.l0 : C := .seq (.seq (.reg [⟨some 30, .mv (.t 4), none⟩,
    ⟨some 31, .faddr 2 (.t 1), none⟩,
    ⟨some 32, .load false 1 (.t 31), none⟩,
    ⟨some 33, .len (.t 32), none⟩,
    ⟨some 34, .bin .lss (.t 30) (.t 33), none⟩] [1, 3, 4, 34] [1, 29, 106])
  (.cond (.t 34) (.skip) (.exit 0)))
  (.seq (.block 1 (.seq (.reg [⟨some 37, .faddr 2 (.t 1), none⟩,
    ⟨some 38, .load false 1 (.t 37), none⟩,
    ⟨some 39, .mv (.t 4), none⟩,
    ⟨some 40, .iaddr 7 (.t 38) (.t 39), none⟩,
    ⟨some 41, .load true 7 (.t 40), none⟩,
    ⟨some 5, .alloc [.int .i64 0, .str ⟨#[]⟩, .int .i64 0, .int .i64 0, .int .i64 0, .nils 4, .nils 1], none⟩,
    ⟨none, .store 7 (.t 5) (.t 41), none⟩] [1, 3, 4, 5] [1, 5, 29, 106])
  (.seq (.seq (.regd [⟨some 42, .load true 7 (.t 5), none⟩,
    ⟨some 43, .call 88 [.t 42] [] [], none⟩,
    ⟨some 44, .not (.t 43), none⟩,
    ⟨some 45, .mv (.t 44), none⟩,
    ⟨some 46, .mv (.t 4), some (45, false)⟩,
    ⟨some 47, .bin .gtr (.t 46) (.k (.int .i64 0)), some (45, false)⟩,
    ⟨some 48, .mv (.t 47), some (45, false)⟩,
    ⟨some 49, .faddr 2 (.t 1), some (48, true)⟩,
    ⟨some 50, .load false 1 (.t 49), some (48, true)⟩,
    ⟨some 51, .mv (.t 4), some (48, true)⟩,
    ⟨some 52, .bin .sub (.t 51) (.k (.int .i64 1)), some (48, true)⟩,
    ⟨some 53, .iaddr 7 (.t 50) (.t 52), some (48, true)⟩,
    ⟨some 54, .faddr 0 (.t 53), some (48, true)⟩,
    ⟨some 55, .load false 1 (.t 54), some (48, true)⟩,
    ⟨some 56, .faddr 0 (.t 5), some (48, true)⟩,
    ⟨some 57, .load false 1 (.t 56), some (48, true)⟩,
    ⟨some 58, .bin .geq (.t 55) (.t 57), some (48, true)⟩,
    ⟨some 59, .pick (.t 48) (.t 58) (.k (.bool false)), some (45, false)⟩,
    ⟨some 60, .pick (.t 45) (.k (.bool true)) (.t 59), none⟩,
    ⟨some 61, .mv (.t 60), none⟩,
    ⟨some 62, .load true 4 (.t 1), some (61, false)⟩,
    ⟨some 63, .faddr 1 (.t 5), some (61, false)⟩,
    ⟨some 64, .load false 1 (.t 63), some (61, false)⟩,
    ⟨some 65, .call 226 [.t 62, .t 64] [] [], some (61, false)⟩,
    ⟨some 66, .mv (.t 4), some (61, false)⟩,
    ⟨some 67, .bin .neq (.t 65) (.t 66), some (61, false)⟩,
    ⟨some 68, .pick (.t 61) (.k (.bool true)) (.t 67), none⟩,
    ⟨some 69, .mv (.t 68), none⟩,
    ⟨some 70, .faddr 3 (.t 1), some (69, false)⟩,
    ⟨some 71, .load false 1 (.t 70), some (69, false)⟩,
    ⟨some 72, .faddr 0 (.t 5), some (69, false)⟩,
    ⟨some 73, .load false 1 (.t 72), some (69, false)⟩,
    ⟨some 74, .call 132 [.t 71, .t 73] [] [], some (69, false)⟩,
    ⟨some 75, .pick (.t 69) (.k (.bool true)) (.t 74), none⟩,
    ⟨some 76, .mv (.t 75), none⟩,
    ⟨some 77, .load true 7 (.t 5), some (76, false)⟩,
    ⟨some 78, .faddr 1 (.t 1), some (76, false)⟩,
    ⟨some 79, .load false 1 (.t 78), some (76, false)⟩,
    ⟨some 80, .call 227 [.t 77, .t 79] [] [], some (76, false)⟩,
    ⟨some 81, .not (.t 80), some (76, false)⟩,
    ⟨some 82, .pick (.t 76) (.k (.bool true)) (.t 81), none⟩] [[], [0], [0, 1], [0, 1, 2], List.range 4, List.range 5, List.range 6, List.range 7, List.range 8, List.range 7, List.range 7 ++ [9], List.range 11, List.range 12, List.range 13, List.range 7, List.range 7 ++ [14], List.range 16, List.range 17, List.range 18, List.range 19, List.range 20, List.range 20, List.range 20 ++ [21], List.range 23, List.range 20, List.range 25, List.range 26, List.range 27, List.range 28, List.range 29, List.range 28, List.range 28 ++ [30], List.range 32, List.range 33, List.range 34, List.range 35, List.range 35, List.range 35 ++ [36], List.range 38, List.range 39, List.range 40] [1, 3, 4, 5, 82] [1, 5, 29, 106])
  (.cond (.t 82) (.seq (.reg [⟨some 2, .mv (.k (.bool false)), none⟩] [2] [])
  (.ret)) (.skip)))
  (.seq (.reg [⟨some 6, .mv (.k (.int .i64 0)), none⟩] [1, 3, 4, 5, 6] [1, 5, 29, 106])
  (.block 2 (.loop spec_StoreOk.l1))))))
  (.reg [⟨some 35, .mv (.t 4), none⟩,
    ⟨some 36, .bin .add (.t 35) (.k (.int .i64 1)), none⟩,
    ⟨some 4, .mv (.t 36), none⟩] [1, 3, 4] [1, 29, 106]))
def spec_StoreOk.b : C := .seq (.reg [⟨some 1, .box (.t 0), none⟩,
    ⟨some 2, .mv (.k (.bool false)), none⟩] [1] [1])
  (.seq (.seq (.reg [⟨some 7, .faddr 0 (.t 1), none⟩,
    ⟨some 8, .load false 1 (.t 7), none⟩,
    ⟨some 9, .call 98 [.t 8, .k (.int .i64 1), .k (.int .i64 2)] [] [], none⟩,
    ⟨some 10, .not (.t 9), none⟩,
    ⟨some 11, .mv (.t 10), none⟩,
    ⟨some 12, .faddr 1 (.t 1), some (11, false)⟩,
    ⟨some 13, .load false 1 (.t 12), some (11, false)⟩,
    ⟨some 14, .call 98 [.t 13, .k (.int .i64 0), .k (.int .i64 100000)] [] [], some (11, false)⟩,
    ⟨some 15, .not (.t 14), some (11, false)⟩,
    ⟨some 16, .pick (.t 11) (.k (.bool true)) (.t 15), none⟩,
    ⟨some 17, .mv (.t 16), none⟩,
    ⟨some 18, .faddr 2 (.t 1), some (17, false)⟩,
    ⟨some 19, .load false 1 (.t 18), some (17, false)⟩,
    ⟨some 20, .len (.t 19), some (17, false)⟩,
    ⟨some 21, .bin .gtr (.t 20) (.k (.int .i64 5)), some (17, false)⟩,
    ⟨some 22, .pick (.t 17) (.k (.bool true)) (.t 21), none⟩,
    ⟨some 23, .mv (.t 22), none⟩,
    ⟨some 24, .faddr 3 (.t 1), some (23, false)⟩,
    ⟨some 25, .load false 1 (.t 24), some (23, false)⟩,
    ⟨some 26, .call 186 [.t 25, .k (.int .i64 20)] [] [], some (23, false)⟩,
    ⟨some 27, .not (.t 26), some (23, false)⟩,
    ⟨some 28, .pick (.t 23) (.k (.bool true)) (.t 27), none⟩] [1, 28] [1])
  (.cond (.t 28) (.seq (.reg [⟨some 2, .mv (.k (.bool false)), none⟩] [2] [])
  (.ret)) (.skip)))
  (.seq (.reg [⟨some 29, .bslice 1 0 [.int .i64 0] [], none⟩,
    ⟨some 3, .mv (.t 29), none⟩] [1, 3] [1, 29, 106])
  (.seq (.seq (.reg [⟨some 4, .mv (.k (.int .i64 0)), none⟩] [1, 3, 4] [1, 29, 106])
  (.block 0 (.loop spec_StoreOk.l0)))
  (.seq (.reg [⟨some 2, .mv (.k (.bool true)), none⟩] [2] [])
  (.ret)))))
def spec_StoreOk.m : Fn := { np := 1, body := spec_StoreOk.b, res := [.tmp 2] }
def spec_StoreOk.k (M : Nat → Option Body) : Prop := M 149 = some (.code spec_StoreOk.m) ∧ spec_BoxOk.k M ∧ spec_l01In.k M ∧ spec_l06In.k M ∧ spec_l06Sorted.k M ∧ spec_BoxNamed.k M ∧ spec_l07Times.k M
end Mx

/-
  What is right: stores.
-/
namespace Mx
open Go
variable {M : Nat → Option Body}
/-- a place of a list whose thing is so -/
def atP {α : Type} (p : α → Bool) (l : List α) (i : Nat) : Bool := match l[i]? with
  | some x => p x
  | none => false
theorem atP_at {α : Type} {p : α → Bool} {l : List α} {i : Nat} (h : i < l.length) : atP p l i = p l[i] := by simp [atP, h]
theorem firstF_findIdx {α : Type} (p : α → Bool) (l : List α) : ∀ d i, i + d = l.length → firstF (atP p l) d i = ((l.drop i).findIdx? p).map (· + i)
  | 0, i, h => by rw [firstF, List.drop_eq_nil_of_le (by omega)]; rfl
  | d + 1, i, h => by
    have hi : i < l.length := by omega
    rw [firstF, atP_at hi, List.drop_eq_getElem_cons hi, List.findIdx?_cons]
    split
    · simp
    · rw [firstF_findIdx p l d (i + 1) (by omega), Option.map_map]
      congr 1; funext x; simp only [Function.comp]; omega
theorem firstN_findIdx {α : Type} (p : α → Bool) (l : List α) : firstN (atP p l) l.length = l.findIdx? p := by
  rw [firstN, firstF_findIdx p l _ _ (by omega)]; simp
theorem firstN_any {α : Type} (p : α → Bool) (l : List α) : (firstN (atP p l) l.length).isSome = l.any p := by
  rw [firstN_findIdx, List.findIdx?_isSome]
def named (l : List Box) (s : List UInt8) : Option Nat := l.findIdx? fun b => decide (b.name = s)
def bnS (st : Store) (s : List UInt8) (i : Nat) (x : Nat × Nat) : St := { t := [(1, .c (S s)), (2, .c (.ptr 2 x.1 0 0)), (5, .c (I i))], o := [(2, ⟨x.1, 4, true, true, [encStore st]⟩)], n := x.2 }
/-- a loop that answers the first place found -/
def finI {β : Type} (r : Nat) (e : Nat) (E : β → St) (q : Option Nat) (m : β × Nat) : Out × St := match q with
  | none => (.exit e, E m.1)
  | some k => (.ret, { t := [(r, .c (I k))], o := [], n := m.2 })
theorem index_loop {β γ : Type} (n : Nat) (p : Nat → Bool) {f : St → Option (Out × St)} (S : Nat → β → St) (r : Nat) (e : Nat) (E : γ → St) (z : γ)
    (h1 : ∀ i, i < n → ∀ x, p i = false → ∃ y, f (S i x) = some (.normal, S (i + 1) y)) (h2 : ∀ i, i < n → ∀ x, p i = true → ∃ k, f (S i x) = some (.ret, { t := [(r, .c (I i))], o := [], n := k }))
    (h3 : ∀ x, ∃ y, f (S n x) = some (.exit e, E y)) : ∃ g : β → γ × Nat, ∀ x, loopN f (n + 1) (S 0 x) = some (finI r e E (firstN p n) (g x)) :=
  first_loop n p S (finI r e E) (fun q m => by cases q <;> simp [finI]) h1 (fun i hi x c => by
    obtain ⟨k, hk⟩ := h2 i hi x c
    exact ⟨(z, k), hk⟩) (fun x => by
    obtain ⟨y, hy⟩ := h3 x
    exact ⟨(y, 0), hy⟩)
def bnE (st : Store) (s : List UInt8) (x : Nat × Nat) : St := { t := [(1, .c (S s)), (2, .c (.ptr 2 x.1 0 0)), (5, .c (I st.boxes.length)), (10, .c (.bool false))], o := [(2, ⟨x.1, 4, true, true, [encStore st]⟩)], n := x.2 }
theorem spec_BoxNamed.says (h : spec_BoxNamed.k M) (st : Store) (s : List UInt8) (hb : st.boxes.length ≤ 1048576) : run M 226 [.a (encStore st), .c (S s)] [] = some (.c (I (intO (named st.boxes s))), []) := by
  refine run_code (b := spec_BoxNamed.m) h ⟨st.boxes.length + 1, ?_⟩
  obtain ⟨g, hr⟩ := index_loop (f := exC (run M) (st.boxes.length + 1) spec_BoxNamed.l0) st.boxes.length (atP (fun b => decide (b.name = s)) st.boxes) (bnS st s) 4 0 (bnE st s) (0, 0)
    (fun i hi x c => by
      obtain ⟨v, x⟩ := x
      rw [atP_at hi, decide_eq_false_iff_not] at c
      have e5 : IntKind.i64.wrap ((i : Int) + 1) = (i : Int) + 1 := wrap_i64 (by omega) (by omega)
      simp only [Prod.exists]
      simp (maxSteps := 1000000) [spec_BoxNamed.l0, List.range_succ, bs_get, setAt, bnS, hi, c, encBox, e5])
    (fun i hi x c => by
      obtain ⟨v, x⟩ := x
      rw [atP_at hi, decide_eq_true_eq] at c
      simp (maxSteps := 1000000) [spec_BoxNamed.l0, List.range_succ, bs_get, setAt, bnS, hi, c, encBox])
    (fun x => by
      obtain ⟨v, x⟩ := x
      simp only [Prod.exists]
      simp (maxSteps := 1000000) [spec_BoxNamed.l0, List.range_succ, bs_get, setAt, bnS, bnE])
  rw [firstN_findIdx] at hr
  unfold named
  cases hm : st.boxes.findIdx? fun b => decide (b.name = s) with
  | none =>
    simp [bnS, hm, finI, bnE] at hr
    simp (maxSteps := 1000000) [exB, spec_BoxNamed.m, spec_BoxNamed.b, List.range_succ, bs_get, setAt, hr, intO]
  | some k =>
    simp [bnS, hm, finI] at hr
    simp (maxSteps := 1000000) [exB, spec_BoxNamed.m, spec_BoxNamed.b, List.range_succ, bs_get, setAt, hr, intO]
theorem impl_BoxNamed_1.says (h : impl_BoxNamed_1.k M) (b : Box) (s : List UInt8) : run M 271 [.a (encBox b), .c (.vp [S s] 0)] [] = some (.c (.bool (decide (b.name = s))), []) := by
  refine run_code (b := impl_BoxNamed_1.m) h ⟨0, ?_⟩
  simp (maxSteps := 1000000) [exB, impl_BoxNamed_1.m, impl_BoxNamed_1.b, List.range_succ, bs_get, setAt]
def ixbS (l : List Box) (s : List UInt8) (i : Nat) (x : Nat) : St := { t := [(0, .c (boxes l)), (1, .c (.fn 271 [.vp [S s] 0])), (7, .c (I l.length)), (8, .c (I i))], o := [], n := x }
def ixbE (l : List Box) (s : List UInt8) (x : Nat) : St := { t := [(0, .c (boxes l)), (1, .c (.fn 271 [.vp [S s] 0])), (7, .c (I l.length)), (8, .c (I l.length)), (9, .c (.bool false))], o := [], n := x }
theorem impl_BoxNamed.index (h : slices_IndexFunc_impl_Box_impl_Box.k M) (h2 : impl_BoxNamed_1.k M) (l : List Box) (s : List UInt8) (hl : l.length ≤ 1048576) :
    run M 200 [.c (boxes l), .c (.fn 271 [.vp [S s] 0])] [] = some (.c (I (intO (named l s))), []) := by
  refine run_code (b := slices_IndexFunc_impl_Box_impl_Box.m) h ⟨l.length + 1, ?_⟩
  obtain ⟨g, hr⟩ := index_loop (f := exC (run M) (l.length + 1) slices_IndexFunc_impl_Box_impl_Box.l0) l.length (atP (fun b => decide (b.name = s)) l) (ixbS l s) 4 0 (ixbE l s) 0
    (fun i hi x c => by
      have hm := impl_BoxNamed_1.says h2 l[i] s
      rw [atP_at hi] at c
      rw [c] at hm
      simp only [encBox] at hm
      have e5 : IntKind.i64.wrap ((i : Int) + 1) = (i : Int) + 1 := wrap_i64 (by omega) (by omega)
      simp (maxSteps := 1000000) [slices_IndexFunc_impl_Box_impl_Box.l0, List.range_succ, bs_get, setAt, ixbS, hi, hm, encBox, e5])
    (fun i hi x c => by
      have hm := impl_BoxNamed_1.says h2 l[i] s
      rw [atP_at hi] at c
      rw [c] at hm
      simp only [encBox] at hm
      simp (maxSteps := 1000000) [slices_IndexFunc_impl_Box_impl_Box.l0, List.range_succ, bs_get, setAt, ixbS, hi, hm, encBox])
    (fun x => by simp (maxSteps := 1000000) [slices_IndexFunc_impl_Box_impl_Box.l0, List.range_succ, bs_get, setAt, ixbS, ixbE])
  rw [firstN_findIdx] at hr
  unfold named
  cases hm : l.findIdx? fun b => decide (b.name = s) with
  | none =>
    simp [ixbS, hm, finI, ixbE] at hr
    simp (maxSteps := 1000000) [exB, slices_IndexFunc_impl_Box_impl_Box.m, slices_IndexFunc_impl_Box_impl_Box.b, List.range_succ, bs_get, setAt, hr, intO]
  | some k =>
    simp [ixbS, hm, finI] at hr
    simp (maxSteps := 1000000) [exB, slices_IndexFunc_impl_Box_impl_Box.m, slices_IndexFunc_impl_Box_impl_Box.b, List.range_succ, bs_get, setAt, hr, intO]
theorem impl_BoxNamed.says (h : impl_BoxNamed.k M) (st : Store) (s : List UInt8) (hb : st.boxes.length ≤ 1048576) : run M 228 [.a (encStore st), .c (S s)] [] = some (.c (I (intO (named st.boxes s))), []) := by
  have h1 := impl_BoxNamed.index h.2.1 h.2.2 st.boxes s hb
  refine run_code (b := impl_BoxNamed.m) h.1 ⟨0, ?_⟩
  simp (maxSteps := 1000000) [exB, impl_BoxNamed.m, impl_BoxNamed.b, List.range_succ, bs_get, setAt, h1]
/-! ## late stamps -/
def lateM (time : Int) (m : Mail) : Bool := m.flags.any fun r => decide (time < r.time)
def late (b : Box) (time : Int) : Bool := decide (time < b.time) || b.mails.any (lateM time)
def ltS (b : Box) (time : Int) (i : Nat) (x : Nat × Nat) : St := { t := [(1, .c (I time)), (2, .c (.ptr 2 x.1 0 0)), (10, .c (mails b.mails)), (11, .c (I b.mails.length)), (12, .c (I i))], o := [(2, ⟨x.1, 7, true, true, [encBox b]⟩)], n := x.2 }
def ltE (b : Box) (time : Int) (x : Nat × Nat) : St := { t := [(1, .c (I time)), (2, .c (.ptr 2 x.1 0 0)), (10, .c (mails b.mails)), (11, .c (I b.mails.length)), (12, .c (I b.mails.length)), (13, .c (.bool false))], o := [(2, ⟨x.1, 7, true, true, [encBox b]⟩)], n := x.2 }
def lt1S (b : Box) (time : Int) (i : Nat) (l : List Reg) (k : Nat) (x : Nat × Nat) : St := { t := [(1, .c (I time)), (2, .c (.ptr 2 x.1 0 0)), (10, .c (mails b.mails)), (11, .c (I b.mails.length)), (12, .c (I i)), (17, .c (regs l)), (18, .c (I l.length)), (19, .c (I k))], o := [(2, ⟨x.1, 7, true, true, [encBox b]⟩)], n := x.2 }
def lt1E (b : Box) (time : Int) (i : Nat) (l : List Reg) (x : Nat × Nat) : St := { t := [(1, .c (I time)), (2, .c (.ptr 2 x.1 0 0)), (10, .c (mails b.mails)), (11, .c (I b.mails.length)), (12, .c (I i)), (17, .c (regs l)), (18, .c (I l.length)), (19, .c (I l.length)), (20, .c (.bool false))], o := [(2, ⟨x.1, 7, true, true, [encBox b]⟩)], n := x.2 }
theorem any_none {α : Type} {p : α → Bool} {l : List α} (h : l.any p = false) : firstN (atP p l) l.length = none := by
  have := firstN_any p l
  rw [h] at this; simpa using this
theorem any_some {α : Type} {p : α → Bool} {l : List α} (h : l.any p = true) : ∃ k, firstN (atP p l) l.length = some k := by
  have := firstN_any p l
  rw [h] at this; exact Option.isSome_iff_exists.1 this
theorem impl_isLate.inner (b : Box) (time : Int) (i K : Nat) (l : List Reg) (hl : l.length ≤ 1048576) : ∃ g : Nat × Nat → (Nat × Nat) × Nat, ∀ x, loopN (exC (run M) K impl_isLate.l1) (l.length + 1) (lt1S b time i l 0 x) = some (fin1 4 (.bool true) 2 (lt1E b time i l) (firstN (atP (fun r => decide (time < r.time)) l) l.length) (g x)) :=
  early_loop l.length (atP (fun r => decide (time < r.time)) l) (lt1S b time i l) 4 (.bool true) 2 (lt1E b time i l)
    (fun i hi x c => by
      obtain ⟨v, x⟩ := x
      rw [atP_at hi, decide_eq_false_iff_not] at c
      have e5 : IntKind.i64.wrap ((i : Int) + 1) = (i : Int) + 1 := wrap_i64 (by omega) (by omega)
      simp only [Prod.exists]
      simp (maxSteps := 1000000) [impl_isLate.l1, List.range_succ, bs_get, setAt, lt1S, hi, c, encReg, e5])
    (fun i hi x c => by
      obtain ⟨v, x⟩ := x
      rw [atP_at hi, decide_eq_true_eq] at c
      simp (maxSteps := 1000000) [impl_isLate.l1, List.range_succ, bs_get, setAt, lt1S, hi, c, encReg])
    (fun x => by
      obtain ⟨v, x⟩ := x
      simp only [Prod.exists]
      simp (maxSteps := 1000000) [impl_isLate.l1, List.range_succ, bs_get, setAt, lt1S, lt1E])
theorem impl_isLate.says (h : impl_isLate.k M) (b : Box) (time : Int) (hb : b.mails.length ≤ 1048576) (hf : ∀ m ∈ b.mails, m.flags.length ≤ 1048576) : run M 229 [.a (encBox b), .c (I time)] [] = some (.c (.bool (late b time)), []) := by
  refine run_code (b := impl_isLate.m) h ⟨b.mails.length + 1048577, ?_⟩
  obtain ⟨K, hK⟩ : ∃ K, b.mails.length + 1048577 = K := ⟨_, rfl⟩
  rw [hK]
  obtain ⟨g, hr⟩ := early_loop (f := exC (run M) K impl_isLate.l0) b.mails.length (atP (lateM time) b.mails) (ltS b time) 4 (.bool true) 0 (ltE b time)
    (fun i hi x c => by
      obtain ⟨v, x⟩ := x
      rw [atP_at hi, lateM] at c
      have e5 : IntKind.i64.wrap ((i : Int) + 1) = (i : Int) + 1 := wrap_i64 (by omega) (by omega)
      have hfl := hf _ (List.getElem_mem hi)
      obtain ⟨g, hr⟩ := impl_isLate.inner (M := M) b time i K b.mails[i].flags hfl
      rw [any_none c] at hr
      have hr2 := fun x => loopN_le (hr x) (show b.mails[i].flags.length + 1 ≤ K by omega)
      simp [lt1S, lt1E, fin1] at hr2
      simp only [Prod.exists]
      simp (maxSteps := 1000000) [impl_isLate.l0, List.range_succ, bs_get, setAt, ltS, hi, encMail, e5, hr2])
    (fun i hi x c => by
      obtain ⟨v, x⟩ := x
      rw [atP_at hi, lateM] at c
      have hfl := hf _ (List.getElem_mem hi)
      obtain ⟨g, hr⟩ := impl_isLate.inner (M := M) b time i K b.mails[i].flags hfl
      obtain ⟨k, hk⟩ := any_some c
      rw [hk] at hr
      have hr2 := fun x => loopN_le (hr x) (show b.mails[i].flags.length + 1 ≤ K by omega)
      simp [lt1S, fin1] at hr2
      simp (maxSteps := 1000000) [impl_isLate.l0, List.range_succ, bs_get, setAt, ltS, hi, encMail, hr2])
    (fun x => by
      obtain ⟨v, x⟩ := x
      simp only [Prod.exists]
      simp (maxSteps := 1000000) [impl_isLate.l0, List.range_succ, bs_get, setAt, ltS, ltE])
  have hr2 := fun x => loopN_le (hr x) (show b.mails.length + 1 ≤ K by omega)
  unfold late
  cases c : b.mails.any (lateM time)
  · rw [any_none c] at hr2
    simp [ltS, ltE, fin1] at hr2
    simp (maxSteps := 1000000) [exB, impl_isLate.m, impl_isLate.b, List.range_succ, bs_get, setAt, hr2]
  · obtain ⟨k, hk⟩ := any_some c
    rw [hk] at hr2
    simp [ltS, fin1] at hr2
    simp (maxSteps := 1000000) [exB, impl_isLate.m, impl_isLate.b, List.range_succ, bs_get, setAt, hr2]
def st0S (b : Box) (time : Int) (i : Nat) (x : Nat × Nat) : St := { t := [(1, .c (I time)), (2, .c (.ptr 2 x.1 0 0)), (5, .c (I i))], o := [(2, ⟨x.1, 7, true, true, [encBox b]⟩)], n := x.2 }
def st0E (b : Box) (time : Int) (x : Nat × Nat) : St := { t := [(1, .c (I time)), (2, .c (.ptr 2 x.1 0 0)), (5, .c (I b.mails.length)), (16, .c (.bool false))], o := [(2, ⟨x.1, 7, true, true, [encBox b]⟩)], n := x.2 }
def st1S (b : Box) (time : Int) (i : Nat) (k : Nat) (x : Nat × Nat) : St := { t := [(1, .c (I time)), (2, .c (.ptr 2 x.1 0 0)), (5, .c (I i)), (6, .c (I k))], o := [(2, ⟨x.1, 7, true, true, [encBox b]⟩)], n := x.2 }
def st1E (b : Box) (time : Int) (i : Nat) (k : Nat) (x : Nat × Nat) : St := { t := [(1, .c (I time)), (2, .c (.ptr 2 x.1 0 0)), (5, .c (I i)), (6, .c (I k)), (27, .c (.bool false))], o := [(2, ⟨x.1, 7, true, true, [encBox b]⟩)], n := x.2 }
theorem spec_l07Times.inner (b : Box) (time : Int) (i K : Nat) (hi : i < b.mails.length) (hl : b.mails[i].flags.length ≤ 1048576) : ∃ g : Nat × Nat → (Nat × Nat) × Nat, ∀ x, loopN (exC (run M) K spec_l07Times.l1) (b.mails[i].flags.length + 1) (st1S b time i 0 x) = some (fin1 4 (.bool false) 2 (st1E b time i b.mails[i].flags.length) (firstN (atP (fun r => decide (time < r.time)) b.mails[i].flags) b.mails[i].flags.length) (g x)) :=
  early_loop b.mails[i].flags.length (atP (fun r => decide (time < r.time)) b.mails[i].flags) (st1S b time i) 4 (.bool false) 2 (st1E b time i b.mails[i].flags.length)
    (fun k hk x c => by
      obtain ⟨v, x⟩ := x
      rw [atP_at hk, decide_eq_false_iff_not] at c
      have e5 : IntKind.i64.wrap ((k : Int) + 1) = (k : Int) + 1 := wrap_i64 (by omega) (by omega)
      simp only [Prod.exists]
      simp (maxSteps := 1000000) [spec_l07Times.l1, List.range_succ, bs_get, setAt, st1S, hi, hk, c, encReg, encMail, e5])
    (fun k hk x c => by
      obtain ⟨v, x⟩ := x
      rw [atP_at hk, decide_eq_true_eq] at c
      simp (maxSteps := 1000000) [spec_l07Times.l1, List.range_succ, bs_get, setAt, st1S, hi, hk, c, encReg, encMail])
    (fun x => by
      obtain ⟨v, x⟩ := x
      simp only [Prod.exists]
      simp (maxSteps := 1000000) [spec_l07Times.l1, List.range_succ, bs_get, setAt, st1S, st1E, hi, encMail])
theorem spec_l07Times.says (h : spec_l07Times.k M) (b : Box) (time : Int) (hb : b.mails.length ≤ 1048576) (hf : ∀ m ∈ b.mails, m.flags.length ≤ 1048576) : run M 227 [.a (encBox b), .c (I time)] [] = some (.c (.bool (!late b time)), []) := by
  refine run_code (b := spec_l07Times.m) h ⟨b.mails.length + 1048577, ?_⟩
  obtain ⟨K, hK⟩ : ∃ K, b.mails.length + 1048577 = K := ⟨_, rfl⟩
  rw [hK]
  obtain ⟨g, hr⟩ := early_loop (f := exC (run M) K spec_l07Times.l0) b.mails.length (atP (lateM time) b.mails) (st0S b time) 4 (.bool false) 0 (st0E b time)
    (fun i hi x c => by
      obtain ⟨v, x⟩ := x
      rw [atP_at hi, lateM] at c
      have e5 : IntKind.i64.wrap ((i : Int) + 1) = (i : Int) + 1 := wrap_i64 (by omega) (by omega)
      have hfl := hf _ (List.getElem_mem hi)
      obtain ⟨g, hr⟩ := spec_l07Times.inner (M := M) b time i K hi hfl
      rw [any_none c] at hr
      have hr2 := fun x => loopN_le (hr x) (show b.mails[i].flags.length + 1 ≤ K by omega)
      simp [st1S, st1E, fin1] at hr2
      simp only [Prod.exists]
      simp (maxSteps := 1000000) [spec_l07Times.l0, List.range_succ, bs_get, setAt, st0S, hi, encMail, e5, hr2])
    (fun i hi x c => by
      obtain ⟨v, x⟩ := x
      rw [atP_at hi, lateM] at c
      have hfl := hf _ (List.getElem_mem hi)
      obtain ⟨g, hr⟩ := spec_l07Times.inner (M := M) b time i K hi hfl
      obtain ⟨k, hk⟩ := any_some c
      rw [hk] at hr
      have hr2 := fun x => loopN_le (hr x) (show b.mails[i].flags.length + 1 ≤ K by omega)
      simp [st1S, fin1] at hr2
      simp (maxSteps := 1000000) [spec_l07Times.l0, List.range_succ, bs_get, setAt, st0S, hi, encMail, hr2])
    (fun x => by
      obtain ⟨v, x⟩ := x
      simp only [Prod.exists]
      simp (maxSteps := 1000000) [spec_l07Times.l0, List.range_succ, bs_get, setAt, st0S, st0E])
  have hr2 := fun x => loopN_le (hr x) (show b.mails.length + 1 ≤ K by omega)
  unfold late
  by_cases c0 : time < b.time
  · simp (maxSteps := 1000000) [exB, spec_l07Times.m, spec_l07Times.b, List.range_succ, bs_get, setAt, c0]
  cases c : b.mails.any (lateM time)
  · rw [any_none c] at hr2
    simp [st0S, st0E, fin1] at hr2
    simp (maxSteps := 1000000) [exB, spec_l07Times.m, spec_l07Times.b, List.range_succ, bs_get, setAt, hr2, c0]
  · obtain ⟨k, hk⟩ := any_some c
    rw [hk] at hr2
    simp [st0S, fin1] at hr2
    simp (maxSteps := 1000000) [exB, spec_l07Times.m, spec_l07Times.b, List.range_succ, bs_get, setAt, hr2, c0]
end Mx

/-
  What is right: stores, both sides.
-/
namespace Mx
open Go
variable {M : Nat → Option Body}
def gidsOf (b : Box) : List Int := b.mails.map (·.gid)
def seenAt (s : Store) (i : Nat) : List Int := (s.boxes.take i).flatMap gidsOf
theorem seenAt_succ {s : Store} {i : Nat} (h : i < s.boxes.length) : seenAt s (i + 1) = seenAt s i ++ gidsOf s.boxes[i] := by
  rw [seenAt, seenAt, List.take_succ_eq_append_getElem h, List.flatMap_append]; simp
def dupAt (seen l : List Int) (k : Nat) : Bool := match l[k]? with
  | some g => decide (g ∈ seen ++ l.take k)
  | none => false
theorem dupAt_at {seen l : List Int} {k : Nat} (h : k < l.length) : dupAt seen l k = decide (l[k] ∈ seen ++ l.take k) := by simp [dupAt, h]
def dups (seen l : List Int) : Bool := (firstN (dupAt seen l) l.length).isSome
def badBox (s : Store) (i : Nat) : Bool := match s.boxes[i]? with
  | some b => !boxOk b || (decide (0 < i) && match s.boxes[i - 1]? with | some p => decide (b.gid ≤ p.gid) | none => false) || !decide (intO (named s.boxes b.name) = (i : Int)) || decide (b.gid ∈ s.gone) || late b s.time
  | none => false
theorem badBox_at {s : Store} {i : Nat} (h : i < s.boxes.length) : badBox s i = (!boxOk s.boxes[i] || (decide (0 < i) && decide (s.boxes[i].gid ≤ s.boxes[i - 1].gid)) || !decide (intO (named s.boxes s.boxes[i].name) = (i : Int)) ||
    decide (s.boxes[i].gid ∈ s.gone) || late s.boxes[i] s.time) := by simp [badBox, h, (show i - 1 < s.boxes.length by omega)]
def badAt (s : Store) (i : Nat) : Bool := badBox s i || match s.boxes[i]? with
  | some b => dups (seenAt s i) (gidsOf b)
  | none => false
theorem badAt_at {s : Store} {i : Nat} (h : i < s.boxes.length) : badAt s i = (badBox s i || dups (seenAt s i) (gidsOf s.boxes[i])) := by simp [badAt, h]
def storeOk (s : Store) : Bool := inR 1 s.who 2 && inR 0 s.time 100000 && decide (s.boxes.length ≤ 5) && gidsOk s.gone 20 && (firstN (badAt s) s.boxes.length).isNone
/-- small enough to be walked -/
structure BoxIn (b : Box) : Prop where
  m : b.mails.length ≤ 1048576
  g : b.gone.length ≤ 1048576
  n : b.name.length ≤ 1048576
  f : ∀ m ∈ b.mails, m.flags.length ≤ 1048576
structure StoreIn (s : Store) : Prop where
  b : s.boxes.length ≤ 1048576
  g : s.gone.length ≤ 1048576
  i : ∀ b ∈ s.boxes, BoxIn b
  s : (s.boxes.flatMap gidsOf).length ≤ 1048576
theorem seenAt_le {s : Store} (h : StoreIn s) (i : Nat) : (seenAt s i).length ≤ 1048576 := by
  refine Nat.le_trans ?_ h.s
  conv => rhs; rw [← List.take_append_drop i s.boxes]
  rw [List.flatMap_append, List.length_append]
  exact Nat.le_add_right _ _
def soO (s : Store) (seen : List Int) (x : Nat × Nat × Nat) : List (Nat × Ob) := [(1, ⟨x.1, 4, true, true, [encStore s]⟩), (30, ⟨x.2.1, 1, true, false, irow seen⟩)]
def so0S (s : Store) (i : Nat) (x : Nat × Nat × Nat) : St := { t := [(1, .c (.ptr 1 x.1 0 0)), (3, .c (.row 30 x.2.1 0 (seenAt s i).length)), (32, .c (boxes s.boxes)), (33, .c (I s.boxes.length)), (34, .c (I i))], o := soO s (seenAt s i) x, n := x.2.2 }
def so0E (s : Store) (x : Nat × Nat × Nat) : St := { t := [(1, .c (.ptr 1 x.1 0 0)), (3, .c (.row 30 x.2.1 0 (seenAt s s.boxes.length).length)), (32, .c (boxes s.boxes)), (33, .c (I s.boxes.length)), (34, .c (I s.boxes.length)), (35, .c (.bool false))], o := soO s (seenAt s s.boxes.length) x, n := x.2.2 }
def so1S (s : Store) (b : Box) (seen : List Int) (i k : Nat) (x : Nat × Nat × Nat) : St := { t := [(1, .c (.ptr 1 x.1 0 0)), (3, .c (.row 30 x.2.1 0 (seen.length + k))), (32, .c (boxes s.boxes)), (33, .c (I s.boxes.length)), (34, .c (I i)), (80, .c (mails b.mails)), (81, .c (I b.mails.length)), (82, .c (I k))], o := soO s (seen ++ (gidsOf b).take k) x, n := x.2.2 }
def so1E (s : Store) (b : Box) (seen : List Int) (i : Nat) (x : Nat × Nat × Nat) : St := { t := [(1, .c (.ptr 1 x.1 0 0)), (3, .c (.row 30 x.2.1 0 (seen.length + b.mails.length))), (32, .c (boxes s.boxes)), (33, .c (I s.boxes.length)), (34, .c (I i)), (80, .c (mails b.mails)), (81, .c (I b.mails.length)), (82, .c (I b.mails.length)), (83, .c (.bool false))], o := soO s (seen ++ gidsOf b) x, n := x.2.2 }
theorem gidsOf_len (b : Box) : (gidsOf b).length = b.mails.length := by simp [gidsOf]
theorem gidsOf_at (b : Box) (k : Nat) (h : k < (gidsOf b).length) : (gidsOf b)[k] = (b.mails[k]'(by simpa [gidsOf] using h)).gid := by simp [gidsOf]
theorem impl_StoreOk.inner (hin : slices_Contains_int_int.k M) (s : Store) (b : Box) (seen : List Int) (i K : Nat) (hl : b.mails.length ≤ 1048576) (hs : seen.length ≤ 1048576) :
    ∃ g : Nat × Nat × Nat → (Nat × Nat × Nat) × Nat, ∀ x, loopN (exC (run M) K impl_StoreOk.l1) (b.mails.length + 1) (so1S s b seen i 0 x) = some (fin1 2 (.bool false) 2 (so1E s b seen i) (firstN (dupAt seen (gidsOf b)) b.mails.length) (g x)) :=
  early_loop b.mails.length (dupAt seen (gidsOf b)) (so1S s b seen i) 2 (.bool false) 2 (so1E s b seen i)
    (fun k hk x c => by
      obtain ⟨v, w, x⟩ := x
      have hk' : k < (gidsOf b).length := by rw [gidsOf_len]; exact hk
      rw [dupAt_at hk'] at c
      have hlen : (seen ++ (gidsOf b).take k).length = seen.length + k := by rw [List.length_append, List.length_take, Nat.min_eq_left (by omega)]
      have h1 := slices_Contains_int_int.says hin (seen ++ (gidsOf b).take k) (gidsOf b)[k] (by rw [hlen]; omega)
      rw [c] at h1
      rw [gidsOf_at] at h1
      simp only [ints] at h1
      have e5 : IntKind.i64.wrap ((k : Int) + 1) = (k : Int) + 1 := wrap_i64 (by omega) (by omega)
      have e6 : seen.length + (k + 1) ≤ 4294967296 := by omega
      have e7 : seen ++ (gidsOf b).take (k + 1) = (seen ++ (gidsOf b).take k) ++ [b.mails[k].gid] := by rw [List.take_succ_eq_append_getElem hk', gidsOf_at, List.append_assoc]
      have e8 : irow ((seen ++ (gidsOf b).take k) ++ [b.mails[k].gid]) = irow (seen ++ (gidsOf b).take k) ++ [[I b.mails[k].gid]] := by simp [irow]
      have e9 : (irow (seen ++ (gidsOf b).take k)).length = seen.length + k := by simp only [irow, List.length_map]; exact hlen
      simp only [Prod.exists, so1S, soO, e7, e8]
      generalize irow (seen ++ (gidsOf b).take k) = rr at *
      simp (maxSteps := 1000000) [impl_StoreOk.l1, List.range_succ, bs_get, setAt, hk, h1, encMail, e5, e6, e9, List.take_of_length_le, Nat.add_assoc])
    (fun k hk x c => by
      obtain ⟨v, w, x⟩ := x
      have hk' : k < (gidsOf b).length := by rw [gidsOf_len]; exact hk
      rw [dupAt_at hk'] at c
      have hlen : (seen ++ (gidsOf b).take k).length = seen.length + k := by rw [List.length_append, List.length_take, Nat.min_eq_left (by omega)]
      have h1 := slices_Contains_int_int.says hin (seen ++ (gidsOf b).take k) (gidsOf b)[k] (by rw [hlen]; omega)
      rw [c] at h1
      rw [gidsOf_at] at h1
      simp only [ints] at h1
      have e9 : (irow (seen ++ (gidsOf b).take k)).length = seen.length + k := by simp only [irow, List.length_map]; exact hlen
      simp only [so1S, soO]
      generalize irow (seen ++ (gidsOf b).take k) = rr at *
      simp (maxSteps := 1000000) [impl_StoreOk.l1, List.range_succ, bs_get, setAt, hk, h1, encMail, e9, List.take_of_length_le])
    (fun x => by
      obtain ⟨v, w, x⟩ := x
      have e7 : (gidsOf b).take b.mails.length = gidsOf b := List.take_of_length_le (by rw [gidsOf_len]; omega)
      simp only [Prod.exists, so1S, so1E, soO, e7]
      simp (maxSteps := 1000000) [impl_StoreOk.l1, List.range_succ, bs_get, setAt])
theorem BoxIn.ok {b : Box} (h : BoxIn b) : b.mails.length ≤ 1048576 ∧ b.gone.length ≤ 4611686018427387904 ∧ b.name.length ≤ 4611686018427387904 ∧ ∀ m ∈ b.mails, m.flags.length ≤ 1048576 := ⟨h.m, by have := h.g; omega, by have := h.n; omega, h.f⟩
structure impl_StoreOk.ks (M : Nat → Option Body) : Prop where
  box : impl_BoxOk.k M
  con : slices_Contains_int_int.k M
  nam : impl_BoxNamed.k M
  lat : impl_isLate.k M
theorem impl_StoreOk.good (h : impl_StoreOk.ks M) (s : Store) (hs : StoreIn s) (K : Nat) (hK : 2000000 ≤ K) (i : Nat) (hi : i < s.boxes.length) (x : Nat × Nat × Nat) (c : badAt s i = false) :
    ∃ y, exC (run M) K impl_StoreOk.l0 (so0S s i x) = some (.normal, so0S s (i + 1) y) := by
  have hb := hs.i _ (List.getElem_mem hi)
  have h1 := impl_BoxOk.says h.box s.boxes[i] hb.ok.1 hb.ok.2.1 hb.ok.2.2.1 hb.ok.2.2.2
  have h2 := impl_BoxNamed.says h.nam s s.boxes[i].name hs.b
  have h3 := slices_Contains_int_int.says h.con s.gone s.boxes[i].gid (by have := hs.g; omega)
  have h4 := impl_isLate.says h.lat s.boxes[i] s.time hb.m hb.f
  have hsl := seenAt_le hs i
  obtain ⟨g, hr⟩ := impl_StoreOk.inner h.con s s.boxes[i] (seenAt s i) i K hb.m hsl
  have hr2 := fun x => loopN_le (hr x) (show s.boxes[i].mails.length + 1 ≤ K by have := hb.m; omega)
  rw [badAt_at hi, badBox_at hi] at c
  simp only [Bool.or_eq_false_iff, Bool.and_eq_false_iff, Bool.not_eq_false', decide_eq_false_iff_not, decide_eq_true_eq] at c
  obtain ⟨⟨⟨⟨⟨c1, c2⟩, c3⟩, c4⟩, c5⟩, c6⟩ := c
  have e5 : IntKind.i64.wrap ((i : Int) + 1) = (i : Int) + 1 := wrap_i64 (by have := hs.b; omega) (by have := hs.b; omega)
  rw [c1] at h1
  rw [c3] at h2
  rw [decide_eq_false c4] at h3
  rw [c5] at h4
  have q : firstN (dupAt (seenAt s i) (gidsOf s.boxes[i])) s.boxes[i].mails.length = none := by
    unfold dups at c6; rw [gidsOf_len] at c6; simpa using c6
  rw [q] at hr2
  obtain ⟨v, w, x⟩ := x
  simp only [encBox, encStore] at h1 h2 h4
  simp only [ints] at h3
  have hz : irow (seenAt s i ++ gidsOf s.boxes[i]) = irow (seenAt s i) ++ irow (gidsOf s.boxes[i]) := by simp [irow]
  simp [so1S, so1E, soO, fin1] at hr2
  simp only [so0S, soO, seenAt_succ hi, Prod.exists]
  have hgl := gidsOf_len s.boxes[i]
  by_cases c7 : 0 < i
  · have e6 : IntKind.i64.wrap ((i : Int) - 1) = ((i - 1 : Nat) : Int) := by rw [wrap_i64 (by have := hs.b; omega) (by have := hs.b; omega)]; omega
    have c2' : ¬ s.boxes[i].gid ≤ s.boxes[i - 1].gid := by
      rcases c2 with c2 | c2
      · exact absurd c7 c2
      · exact c2
    simp (maxSteps := 1000000) [impl_StoreOk.l0, List.range_succ, bs_get, setAt, hi, h1, h2, h3, h4, c7, c2', e5, e6, hr2, hgl, encBox, (show i - 1 < s.boxes.length by omega)]
  · simp (maxSteps := 1000000) [impl_StoreOk.l0, List.range_succ, bs_get, setAt, hi, h1, h2, h3, h4, c7, e5, hr2, hgl, encBox]
theorem impl_StoreOk.bad (h : impl_StoreOk.ks M) (s : Store) (hs : StoreIn s) (K : Nat) (hK : 2000000 ≤ K) (i : Nat) (hi : i < s.boxes.length) (x : Nat × Nat × Nat) (c : badAt s i = true) :
    ∃ k, exC (run M) K impl_StoreOk.l0 (so0S s i x) = some (.ret, { t := [(2, .c (.bool false))], o := [], n := k }) := by
  have hb := hs.i _ (List.getElem_mem hi)
  have h1 := impl_BoxOk.says h.box s.boxes[i] hb.ok.1 hb.ok.2.1 hb.ok.2.2.1 hb.ok.2.2.2
  have h2 := impl_BoxNamed.says h.nam s s.boxes[i].name hs.b
  have h3 := slices_Contains_int_int.says h.con s.gone s.boxes[i].gid (by have := hs.g; omega)
  have h4 := impl_isLate.says h.lat s.boxes[i] s.time hb.m hb.f
  have hsl := seenAt_le hs i
  obtain ⟨g, hr⟩ := impl_StoreOk.inner h.con s s.boxes[i] (seenAt s i) i K hb.m hsl
  have hr2 := fun x => loopN_le (hr x) (show s.boxes[i].mails.length + 1 ≤ K by have := hb.m; omega)
  rw [badAt_at hi, badBox_at hi] at c
  obtain ⟨v, w, x⟩ := x
  simp only [encBox, encStore] at h1 h2 h4
  simp only [ints] at h3
  simp only [so0S, soO]
  cases c1 : boxOk s.boxes[i]
  · rw [c1] at h1
    simp (maxSteps := 1000000) [impl_StoreOk.l0, List.range_succ, bs_get, setAt, hi, h1, encBox]
  rw [c1] at h1
  have tail : ∀ (hp : ¬ 0 < i ∨ ¬ s.boxes[i].gid ≤ s.boxes[i - 1].gid), ∃ k, exC (run M) K impl_StoreOk.l0 { t := [(1, .c (.ptr 1 v 0 0)), (3, .c (.row 30 w 0 (seenAt s i).length)), (32, .c (boxes s.boxes)), (33, .c (I s.boxes.length)), (34, .c (I i))], o := [(1, ⟨v, 4, true, true, [encStore s]⟩), (30, ⟨w, 1, true, false, irow (seenAt s i)⟩)], n := x } = some (.ret, { t := [(2, .c (.bool false))], o := [], n := k }) := by
    intro hp
    have hpp : (decide (0 < i) && decide (s.boxes[i].gid ≤ s.boxes[i - 1].gid)) = false := by
      rcases hp with hp | hp <;> simp [hp]
    have key : (∀ (Q : Prop), (0 < i → ¬ s.boxes[i].gid ≤ s.boxes[i - 1].gid → Q) → (¬ 0 < i → Q) → Q) := by
      intro Q q1 q2
      by_cases c7 : 0 < i
      · rcases hp with hp | hp
        · exact absurd c7 hp
        · exact q1 c7 hp
      · exact q2 c7
    have e6 : 0 < i → IntKind.i64.wrap ((i : Int) - 1) = ((i - 1 : Nat) : Int) := fun c7 => by rw [wrap_i64 (by have := hs.b; omega) (by have := hs.b; omega)]; omega
    have hi1 : i - 1 < s.boxes.length := by omega
    by_cases c3 : intO (named s.boxes s.boxes[i].name) = (i : Int)
    rotate_left
    · exact key _ (fun c7 c2 => by simp (maxSteps := 1000000) [impl_StoreOk.l0, List.range_succ, bs_get, setAt, hi, h1, h2, c7, c2, c3, e6 c7, encBox, hi1]) (fun c7 => by simp (maxSteps := 1000000) [impl_StoreOk.l0, List.range_succ, bs_get, setAt, hi, h1, h2, c7, c3, encBox])
    rw [c3] at h2
    by_cases c4 : s.boxes[i].gid ∈ s.gone
    · rw [decide_eq_true c4] at h3
      exact key _ (fun c7 c2 => by simp (maxSteps := 1000000) [impl_StoreOk.l0, List.range_succ, bs_get, setAt, hi, h1, h2, h3, c7, c2, c3, e6 c7, encBox, hi1]) (fun c7 => by simp (maxSteps := 1000000) [impl_StoreOk.l0, List.range_succ, bs_get, setAt, hi, h1, h2, h3, c7, c3, encBox])
    rw [decide_eq_false c4] at h3
    cases c5 : late s.boxes[i] s.time
    rotate_left
    · rw [c5] at h4
      exact key _ (fun c7 c2 => by simp (maxSteps := 1000000) [impl_StoreOk.l0, List.range_succ, bs_get, setAt, hi, h1, h2, h3, h4, c7, c2, c3, e6 c7, encBox, hi1]) (fun c7 => by simp (maxSteps := 1000000) [impl_StoreOk.l0, List.range_succ, bs_get, setAt, hi, h1, h2, h3, h4, c7, c3, encBox])
    rw [c5] at h4
    have c6 : dups (seenAt s i) (gidsOf s.boxes[i]) = true := by
      rw [c1, hpp, c3, c5] at c
      simpa [c4] using c
    obtain ⟨k, hk⟩ : ∃ k, firstN (dupAt (seenAt s i) (gidsOf s.boxes[i])) s.boxes[i].mails.length = some k := by
      unfold dups at c6; rw [gidsOf_len] at c6; exact Option.isSome_iff_exists.1 c6
    rw [hk] at hr2
    simp [so1S, soO, fin1] at hr2
    have hgl := gidsOf_len s.boxes[i]
    exact key _ (fun c7 c2 => by simp (maxSteps := 1000000) [impl_StoreOk.l0, List.range_succ, bs_get, setAt, hi, h1, h2, h3, h4, c7, c2, c3, e6 c7, hr2, encBox, hi1]) (fun c7 => by simp (maxSteps := 1000000) [impl_StoreOk.l0, List.range_succ, bs_get, setAt, hi, h1, h2, h3, h4, c7, c3, hr2, encBox])
  by_cases c7 : 0 < i
  · by_cases c2 : s.boxes[i].gid ≤ s.boxes[i - 1].gid
    · have e6 : IntKind.i64.wrap ((i : Int) - 1) = ((i - 1 : Nat) : Int) := by rw [wrap_i64 (by have := hs.b; omega) (by have := hs.b; omega)]; omega
      simp (maxSteps := 1000000) [impl_StoreOk.l0, List.range_succ, bs_get, setAt, hi, h1, c7, c2, e6, encBox, (show i - 1 < s.boxes.length by omega)]
    · exact tail (.inr c2)
  · exact tail (.inl c7)
theorem impl_StoreOk.says (h : impl_StoreOk.k M) (s : Store) (hs : StoreIn s) : run M 150 [.a (encStore s)] [] = some (.c (.bool (storeOk s)), []) := by
  obtain ⟨h0, k1, k2, k3, k4, k5, k6⟩ := h
  have h1 := impl_within.inR k2 s.who 1 2
  have h2 := impl_within.inR k2 s.time 0 100000
  have h3 := impl_areGids.says k4 s.gone 20 (by have := hs.g; omega)
  refine run_code (b := impl_StoreOk.m) h0 ⟨4000000, ?_⟩
  obtain ⟨K, hK⟩ : ∃ K, 4000000 = K := ⟨_, rfl⟩
  rw [hK]
  obtain ⟨g, hr⟩ := early_loop (f := exC (run M) K impl_StoreOk.l0) s.boxes.length (badAt s) (so0S s) 2 (.bool false) 0 (so0E s)
    (fun i hi x c => impl_StoreOk.good ⟨k1, k3, k5, k6⟩ s hs K (by omega) i hi x c)
    (fun i hi x c => impl_StoreOk.bad ⟨k1, k3, k5, k6⟩ s hs K (by omega) i hi x c)
    (fun x => by
      obtain ⟨v, w, x⟩ := x
      simp only [Prod.exists]
      simp (maxSteps := 1000000) [impl_StoreOk.l0, List.range_succ, bs_get, setAt, so0S, so0E, soO])
  have hr2 := fun x => loopN_le (hr x) (show s.boxes.length + 1 ≤ K by have := hs.b; omega)
  cases c1 : inR 1 s.who 2
  · simp (maxSteps := 1000000) [exB, impl_StoreOk.m, impl_StoreOk.b, List.range_succ, bs_get, setAt, h1, c1, storeOk]
  cases c2 : inR 0 s.time 100000
  · simp (maxSteps := 1000000) [exB, impl_StoreOk.m, impl_StoreOk.b, List.range_succ, bs_get, setAt, h1, h2, c1, c2, storeOk]
  by_cases c3 : 5 < s.boxes.length
  · have c3' : ¬ s.boxes.length ≤ 5 := by omega
    have ci : (5 : Int) < s.boxes.length := by omega
    simp (maxSteps := 1000000) [exB, impl_StoreOk.m, impl_StoreOk.b, List.range_succ, bs_get, setAt, h1, h2, c1, c2, c3', ci, storeOk]
  have c3' : s.boxes.length ≤ 5 := by omega
  have ci : ¬ (5 : Int) < s.boxes.length := by omega
  cases c4 : gidsOk s.gone 20
  · simp (maxSteps := 1000000) [exB, impl_StoreOk.m, impl_StoreOk.b, List.range_succ, bs_get, setAt, h1, h2, h3, c1, c2, ci, c4, storeOk]
  have hz : seenAt s 0 = [] := by simp [seenAt]
  cases q : firstN (badAt s) s.boxes.length with
  | none =>
    simp [so0S, so0E, soO, q, fin1, hz, irow] at hr2
    simp (maxSteps := 1000000) [exB, impl_StoreOk.m, impl_StoreOk.b, List.range_succ, bs_get, setAt, h1, h2, h3, c1, c2, c3', ci, c4, hr2, storeOk, q]
  | some k =>
    simp [so0S, soO, q, fin1, hz, irow] at hr2
    simp (maxSteps := 1000000) [exB, impl_StoreOk.m, impl_StoreOk.b, List.range_succ, bs_get, setAt, h1, h2, h3, c1, c2, c3', ci, c4, hr2, storeOk, q]
/-! ## the other side -/
def spO (s : Store) (seen : List Int) (x : Nat × Nat × Nat) : List (Nat × Ob) := [(1, ⟨x.1, 4, true, true, [encStore s]⟩), (29, ⟨x.2.1, 1, true, false, irow seen⟩)]
def sp0S (s : Store) (i : Nat) (x : Nat × Nat × Nat) : St := { t := [(1, .c (.ptr 1 x.1 0 0)), (3, .c (.row 29 x.2.1 0 (seenAt s i).length)), (4, .c (I i))], o := spO s (seenAt s i) x, n := x.2.2 }
def sp0E (s : Store) (x : Nat × Nat × Nat) : St := { t := [(1, .c (.ptr 1 x.1 0 0)), (3, .c (.row 29 x.2.1 0 (seenAt s s.boxes.length).length)), (4, .c (I s.boxes.length)), (34, .c (.bool false))], o := spO s (seenAt s s.boxes.length) x, n := x.2.2 }
def sp1O (s : Store) (b : Box) (seen : List Int) (x : Nat × Nat × Nat × Nat) : List (Nat × Ob) := [(1, ⟨x.1, 4, true, true, [encStore s]⟩), (5, ⟨x.2.2.1, 7, true, true, [encBox b]⟩), (29, ⟨x.2.1, 1, true, false, irow seen⟩)]
def sp1S (s : Store) (b : Box) (seen : List Int) (i k : Nat) (x : Nat × Nat × Nat × Nat) : St := { t := [(1, .c (.ptr 1 x.1 0 0)), (3, .c (.row 29 x.2.1 0 (seen.length + k))), (4, .c (I i)), (5, .c (.ptr 5 x.2.2.1 0 0)), (6, .c (I k))], o := sp1O s b (seen ++ (gidsOf b).take k) x, n := x.2.2.2 }
def sp1E (s : Store) (b : Box) (seen : List Int) (i : Nat) (x : Nat × Nat × Nat × Nat) : St := { t := [(1, .c (.ptr 1 x.1 0 0)), (3, .c (.row 29 x.2.1 0 (seen.length + b.mails.length))), (4, .c (I i)), (5, .c (.ptr 5 x.2.2.1 0 0)), (6, .c (I b.mails.length)), (87, .c (.bool false))], o := sp1O s b (seen ++ gidsOf b) x, n := x.2.2.2 }
theorem spec_StoreOk.inner (hin : spec_l06In.k M) (s : Store) (b : Box) (seen : List Int) (i K : Nat) (hl : b.mails.length ≤ 1048576) (hs : seen.length ≤ 1048576) :
    ∃ g : Nat × Nat × Nat × Nat → (Nat × Nat × Nat × Nat) × Nat, ∀ x, loopN (exC (run M) K spec_StoreOk.l1) (b.mails.length + 1) (sp1S s b seen i 0 x) = some (fin1 2 (.bool false) 2 (sp1E s b seen i) (firstN (dupAt seen (gidsOf b)) b.mails.length) (g x)) :=
  early_loop b.mails.length (dupAt seen (gidsOf b)) (sp1S s b seen i) 2 (.bool false) 2 (sp1E s b seen i)
    (fun k hk x c => by
      obtain ⟨v, w, z, x⟩ := x
      have hk' : k < (gidsOf b).length := by rw [gidsOf_len]; exact hk
      rw [dupAt_at hk'] at c
      have hlen : (seen ++ (gidsOf b).take k).length = seen.length + k := by rw [List.length_append, List.length_take, Nat.min_eq_left (by omega)]
      have h1 := spec_l06In.says hin (seen ++ (gidsOf b).take k) (gidsOf b)[k] (by rw [hlen]; omega)
      rw [c] at h1
      rw [gidsOf_at] at h1
      simp only [ints] at h1
      have e5 : IntKind.i64.wrap ((k : Int) + 1) = (k : Int) + 1 := wrap_i64 (by omega) (by omega)
      have e6 : seen.length + (k + 1) ≤ 4294967296 := by omega
      have e7 : seen ++ (gidsOf b).take (k + 1) = (seen ++ (gidsOf b).take k) ++ [b.mails[k].gid] := by rw [List.take_succ_eq_append_getElem hk', gidsOf_at, List.append_assoc]
      have e8 : irow ((seen ++ (gidsOf b).take k) ++ [b.mails[k].gid]) = irow (seen ++ (gidsOf b).take k) ++ [[I b.mails[k].gid]] := by simp [irow]
      have e9 : (irow (seen ++ (gidsOf b).take k)).length = seen.length + k := by simp only [irow, List.length_map]; exact hlen
      simp only [Prod.exists, sp1S, sp1O, e7, e8]
      generalize irow (seen ++ (gidsOf b).take k) = rr at *
      simp (maxSteps := 1000000) [spec_StoreOk.l1, List.range_succ, bs_get, setAt, hk, h1, encMail, e5, e6, e9, List.take_of_length_le, Nat.add_assoc]
      exact ⟨_, _, _, ⟨rfl, rfl, rfl⟩, rfl, rfl, rfl⟩)
    (fun k hk x c => by
      obtain ⟨v, w, z, x⟩ := x
      have hk' : k < (gidsOf b).length := by rw [gidsOf_len]; exact hk
      rw [dupAt_at hk'] at c
      have hlen : (seen ++ (gidsOf b).take k).length = seen.length + k := by rw [List.length_append, List.length_take, Nat.min_eq_left (by omega)]
      have h1 := spec_l06In.says hin (seen ++ (gidsOf b).take k) (gidsOf b)[k] (by rw [hlen]; omega)
      rw [c] at h1
      rw [gidsOf_at] at h1
      simp only [ints] at h1
      have e9 : (irow (seen ++ (gidsOf b).take k)).length = seen.length + k := by simp only [irow, List.length_map]; exact hlen
      simp only [sp1S, sp1O]
      generalize irow (seen ++ (gidsOf b).take k) = rr at *
      simp (maxSteps := 1000000) [spec_StoreOk.l1, List.range_succ, bs_get, setAt, hk, h1, encMail, e9, List.take_of_length_le])
    (fun x => by
      obtain ⟨v, w, z, x⟩ := x
      have e7 : (gidsOf b).take b.mails.length = gidsOf b := List.take_of_length_le (by rw [gidsOf_len]; omega)
      simp only [Prod.exists, sp1S, sp1E, sp1O, e7]
      simp (maxSteps := 1000000) [spec_StoreOk.l1, List.range_succ, bs_get, setAt]
      exact ⟨_, _, _, ⟨rfl, rfl, rfl⟩, rfl, rfl, rfl⟩)
structure spec_StoreOk.ks (M : Nat → Option Body) : Prop where
  box : spec_BoxOk.k M
  con : spec_l06In.k M
  nam : spec_BoxNamed.k M
  lat : spec_l07Times.k M
theorem spec_StoreOk.good (h : spec_StoreOk.ks M) (s : Store) (hs : StoreIn s) (K : Nat) (hK : 2000000 ≤ K) (i : Nat) (hi : i < s.boxes.length) (x : Nat × Nat × Nat) (c : badAt s i = false) :
    ∃ y, exC (run M) K spec_StoreOk.l0 (sp0S s i x) = some (.normal, sp0S s (i + 1) y) := by
  have hb := hs.i _ (List.getElem_mem hi)
  have h1 := spec_BoxOk.says h.box s.boxes[i] hb.ok.1 hb.ok.2.1 hb.ok.2.2.1 hb.ok.2.2.2
  have h2 := spec_BoxNamed.says h.nam s s.boxes[i].name hs.b
  have h3 := spec_l06In.says h.con s.gone s.boxes[i].gid (by have := hs.g; omega)
  have h4 := spec_l07Times.says h.lat s.boxes[i] s.time hb.m hb.f
  have hsl := seenAt_le hs i
  obtain ⟨g, hr⟩ := spec_StoreOk.inner h.con s s.boxes[i] (seenAt s i) i K hb.m hsl
  have hr2 := fun x => loopN_le (hr x) (show s.boxes[i].mails.length + 1 ≤ K by have := hb.m; omega)
  rw [badAt_at hi, badBox_at hi] at c
  simp only [Bool.or_eq_false_iff, Bool.and_eq_false_iff, Bool.not_eq_false', decide_eq_false_iff_not, decide_eq_true_eq] at c
  obtain ⟨⟨⟨⟨⟨c1, c2⟩, c3⟩, c4⟩, c5⟩, c6⟩ := c
  have e5 : IntKind.i64.wrap ((i : Int) + 1) = (i : Int) + 1 := wrap_i64 (by have := hs.b; omega) (by have := hs.b; omega)
  rw [c1] at h1
  rw [c3] at h2
  rw [decide_eq_false c4] at h3
  rw [c5] at h4
  have q : firstN (dupAt (seenAt s i) (gidsOf s.boxes[i])) s.boxes[i].mails.length = none := by
    unfold dups at c6; rw [gidsOf_len] at c6; simpa using c6
  rw [q] at hr2
  obtain ⟨v, w, x⟩ := x
  simp only [encBox, encStore] at h1 h2 h4
  simp only [ints] at h3
  have hz : irow (seenAt s i ++ gidsOf s.boxes[i]) = irow (seenAt s i) ++ irow (gidsOf s.boxes[i]) := by simp [irow]
  simp [sp1S, sp1E, sp1O, fin1] at hr2
  simp only [sp0S, spO, seenAt_succ hi, Prod.exists]
  have hgl := gidsOf_len s.boxes[i]
  by_cases c7 : 0 < i
  · have e6 : IntKind.i64.wrap ((i : Int) - 1) = ((i - 1 : Nat) : Int) := by rw [wrap_i64 (by have := hs.b; omega) (by have := hs.b; omega)]; omega
    have c2' : ¬ s.boxes[i].gid ≤ s.boxes[i - 1].gid := by
      rcases c2 with c2 | c2
      · exact absurd c7 c2
      · exact c2
    simp (maxSteps := 1000000) [spec_StoreOk.l0, List.range_succ, bs_get, setAt, hi, h1, h2, h3, h4, c7, c2', e5, e6, hr2, hgl, encBox, (show i - 1 < s.boxes.length by omega)]
  · simp (maxSteps := 1000000) [spec_StoreOk.l0, List.range_succ, bs_get, setAt, hi, h1, h2, h3, h4, c7, e5, hr2, hgl, encBox]
theorem spec_StoreOk.bad (h : spec_StoreOk.ks M) (s : Store) (hs : StoreIn s) (K : Nat) (hK : 2000000 ≤ K) (i : Nat) (hi : i < s.boxes.length) (x : Nat × Nat × Nat) (c : badAt s i = true) :
    ∃ k, exC (run M) K spec_StoreOk.l0 (sp0S s i x) = some (.ret, { t := [(2, .c (.bool false))], o := [], n := k }) := by
  have hb := hs.i _ (List.getElem_mem hi)
  have h1 := spec_BoxOk.says h.box s.boxes[i] hb.ok.1 hb.ok.2.1 hb.ok.2.2.1 hb.ok.2.2.2
  have h2 := spec_BoxNamed.says h.nam s s.boxes[i].name hs.b
  have h3 := spec_l06In.says h.con s.gone s.boxes[i].gid (by have := hs.g; omega)
  have h4 := spec_l07Times.says h.lat s.boxes[i] s.time hb.m hb.f
  have hsl := seenAt_le hs i
  obtain ⟨g, hr⟩ := spec_StoreOk.inner h.con s s.boxes[i] (seenAt s i) i K hb.m hsl
  have hr2 := fun x => loopN_le (hr x) (show s.boxes[i].mails.length + 1 ≤ K by have := hb.m; omega)
  rw [badAt_at hi, badBox_at hi] at c
  obtain ⟨v, w, x⟩ := x
  simp only [encBox, encStore] at h1 h2 h4
  simp only [ints] at h3
  simp only [sp0S, spO]
  cases c1 : boxOk s.boxes[i]
  · rw [c1] at h1
    simp (maxSteps := 1000000) [spec_StoreOk.l0, List.range_succ, bs_get, setAt, hi, h1, encBox]
  rw [c1] at h1
  have tail : ∀ (hp : ¬ 0 < i ∨ ¬ s.boxes[i].gid ≤ s.boxes[i - 1].gid), ∃ k, exC (run M) K spec_StoreOk.l0 { t := [(1, .c (.ptr 1 v 0 0)), (3, .c (.row 29 w 0 (seenAt s i).length)), (4, .c (I i))], o := [(1, ⟨v, 4, true, true, [encStore s]⟩), (29, ⟨w, 1, true, false, irow (seenAt s i)⟩)], n := x } = some (.ret, { t := [(2, .c (.bool false))], o := [], n := k }) := by
    intro hp
    have hpp : (decide (0 < i) && decide (s.boxes[i].gid ≤ s.boxes[i - 1].gid)) = false := by
      rcases hp with hp | hp <;> simp [hp]
    have key : (∀ (Q : Prop), (0 < i → ¬ s.boxes[i].gid ≤ s.boxes[i - 1].gid → Q) → (¬ 0 < i → Q) → Q) := by
      intro Q q1 q2
      by_cases c7 : 0 < i
      · rcases hp with hp | hp
        · exact absurd c7 hp
        · exact q1 c7 hp
      · exact q2 c7
    have e6 : 0 < i → IntKind.i64.wrap ((i : Int) - 1) = ((i - 1 : Nat) : Int) := fun c7 => by rw [wrap_i64 (by have := hs.b; omega) (by have := hs.b; omega)]; omega
    have hi1 : i - 1 < s.boxes.length := by omega
    by_cases c3 : intO (named s.boxes s.boxes[i].name) = (i : Int)
    rotate_left
    · exact key _ (fun c7 c2 => by simp (maxSteps := 1000000) [spec_StoreOk.l0, List.range_succ, bs_get, setAt, hi, h1, h2, c7, c2, c3, e6 c7, encBox, hi1]) (fun c7 => by simp (maxSteps := 1000000) [spec_StoreOk.l0, List.range_succ, bs_get, setAt, hi, h1, h2, c7, c3, encBox])
    rw [c3] at h2
    by_cases c4 : s.boxes[i].gid ∈ s.gone
    · rw [decide_eq_true c4] at h3
      exact key _ (fun c7 c2 => by simp (maxSteps := 1000000) [spec_StoreOk.l0, List.range_succ, bs_get, setAt, hi, h1, h2, h3, c7, c2, c3, e6 c7, encBox, hi1]) (fun c7 => by simp (maxSteps := 1000000) [spec_StoreOk.l0, List.range_succ, bs_get, setAt, hi, h1, h2, h3, c7, c3, encBox])
    rw [decide_eq_false c4] at h3
    cases c5 : late s.boxes[i] s.time
    rotate_left
    · rw [c5] at h4
      exact key _ (fun c7 c2 => by simp (maxSteps := 1000000) [spec_StoreOk.l0, List.range_succ, bs_get, setAt, hi, h1, h2, h3, h4, c7, c2, c3, e6 c7, encBox, hi1]) (fun c7 => by simp (maxSteps := 1000000) [spec_StoreOk.l0, List.range_succ, bs_get, setAt, hi, h1, h2, h3, h4, c7, c3, encBox])
    rw [c5] at h4
    have c6 : dups (seenAt s i) (gidsOf s.boxes[i]) = true := by
      rw [c1, hpp, c3, c5] at c
      simpa [c4] using c
    obtain ⟨k, hk⟩ : ∃ k, firstN (dupAt (seenAt s i) (gidsOf s.boxes[i])) s.boxes[i].mails.length = some k := by
      unfold dups at c6; rw [gidsOf_len] at c6; exact Option.isSome_iff_exists.1 c6
    rw [hk] at hr2
    simp [sp1S, sp1O, fin1] at hr2
    have hgl := gidsOf_len s.boxes[i]
    exact key _ (fun c7 c2 => by simp (maxSteps := 1000000) [spec_StoreOk.l0, List.range_succ, bs_get, setAt, hi, h1, h2, h3, h4, c7, c2, c3, e6 c7, hr2, encBox, hi1]) (fun c7 => by simp (maxSteps := 1000000) [spec_StoreOk.l0, List.range_succ, bs_get, setAt, hi, h1, h2, h3, h4, c7, c3, hr2, encBox])
  by_cases c7 : 0 < i
  · by_cases c2 : s.boxes[i].gid ≤ s.boxes[i - 1].gid
    · have e6 : IntKind.i64.wrap ((i : Int) - 1) = ((i - 1 : Nat) : Int) := by rw [wrap_i64 (by have := hs.b; omega) (by have := hs.b; omega)]; omega
      simp (maxSteps := 1000000) [spec_StoreOk.l0, List.range_succ, bs_get, setAt, hi, h1, c7, c2, e6, encBox, (show i - 1 < s.boxes.length by omega)]
    · exact tail (.inr c2)
  · exact tail (.inl c7)
theorem spec_StoreOk.says (h : spec_StoreOk.k M) (s : Store) (hs : StoreIn s) : run M 149 [.a (encStore s)] [] = some (.c (.bool (storeOk s)), []) := by
  obtain ⟨h0, k1, k2, k3, k4, k5, k6⟩ := h
  have h1 := spec_l01In.inR k2 s.who 1 2
  have h2 := spec_l01In.inR k2 s.time 0 100000
  have h3 := spec_l06Sorted.says k4 s.gone 20 (by have := hs.g; omega)
  refine run_code (b := spec_StoreOk.m) h0 ⟨4000000, ?_⟩
  obtain ⟨K, hK⟩ : ∃ K, 4000000 = K := ⟨_, rfl⟩
  rw [hK]
  obtain ⟨g, hr⟩ := early_loop (f := exC (run M) K spec_StoreOk.l0) s.boxes.length (badAt s) (sp0S s) 2 (.bool false) 0 (sp0E s)
    (fun i hi x c => spec_StoreOk.good ⟨k1, k3, k5, k6⟩ s hs K (by omega) i hi x c)
    (fun i hi x c => spec_StoreOk.bad ⟨k1, k3, k5, k6⟩ s hs K (by omega) i hi x c)
    (fun x => by
      obtain ⟨v, w, x⟩ := x
      simp only [Prod.exists]
      simp (maxSteps := 1000000) [spec_StoreOk.l0, List.range_succ, bs_get, setAt, sp0S, sp0E, spO])
  have hr2 := fun x => loopN_le (hr x) (show s.boxes.length + 1 ≤ K by have := hs.b; omega)
  cases c1 : inR 1 s.who 2
  · simp (maxSteps := 1000000) [exB, spec_StoreOk.m, spec_StoreOk.b, List.range_succ, bs_get, setAt, h1, c1, storeOk]
  cases c2 : inR 0 s.time 100000
  · simp (maxSteps := 1000000) [exB, spec_StoreOk.m, spec_StoreOk.b, List.range_succ, bs_get, setAt, h1, h2, c1, c2, storeOk]
  by_cases c3 : 5 < s.boxes.length
  · have c3' : ¬ s.boxes.length ≤ 5 := by omega
    have ci : (5 : Int) < s.boxes.length := by omega
    simp (maxSteps := 1000000) [exB, spec_StoreOk.m, spec_StoreOk.b, List.range_succ, bs_get, setAt, h1, h2, c1, c2, c3', ci, storeOk]
  have c3' : s.boxes.length ≤ 5 := by omega
  have ci : ¬ (5 : Int) < s.boxes.length := by omega
  cases c4 : gidsOk s.gone 20
  · simp (maxSteps := 1000000) [exB, spec_StoreOk.m, spec_StoreOk.b, List.range_succ, bs_get, setAt, h1, h2, h3, c1, c2, ci, c4, storeOk]
  have hz : seenAt s 0 = [] := by simp [seenAt]
  cases q : firstN (badAt s) s.boxes.length with
  | none =>
    simp [sp0S, sp0E, spO, q, fin1, hz, irow] at hr2
    simp (maxSteps := 1000000) [exB, spec_StoreOk.m, spec_StoreOk.b, List.range_succ, bs_get, setAt, h1, h2, h3, c1, c2, c3', ci, c4, hr2, storeOk, q]
  | some k =>
    simp [sp0S, spO, q, fin1, hz, irow] at hr2
    simp (maxSteps := 1000000) [exB, spec_StoreOk.m, spec_StoreOk.b, List.range_succ, bs_get, setAt, h1, h2, h3, c1, c2, c3', ci, c4, hr2, storeOk, q]
end Mx

/-
  Small codes: spec.StoreText, spec.ReadStore, impl.ReadStore.
-/
namespace Mx
open Go
def spec_StoreText.l0 : C := .seq (.seq (.reg [⟨some 24, .mv (.t 5), none⟩,
    ⟨some 25, .faddr 2 (.t 1), none⟩,
    ⟨some 26, .load false 1 (.t 25), none⟩,
    ⟨some 27, .len (.t 26), none⟩,
    ⟨some 28, .bin .lss (.t 24) (.t 27), none⟩] [1, 4, 5, 28] [1])
  (.cond (.t 28) (.skip) (.exit 0)))
  (.seq (.block 1 (.seq (.reg [⟨some 32, .faddr 2 (.t 1), none⟩,
    ⟨some 33, .load false 1 (.t 32), none⟩,
    ⟨some 34, .mv (.t 5), none⟩,
    ⟨some 35, .iaddr 7 (.t 33) (.t 34), none⟩,
    ⟨some 36, .load true 7 (.t 35), none⟩,
    ⟨some 37, .call 34 [.t 36] [] [], none⟩,
    ⟨some 31, .mv (.t 37), none⟩,
    ⟨some 38, .ext 0 (.t 31), none⟩,
    ⟨some 39, .ext 1 (.t 31), none⟩,
    ⟨some 6, .mv (.t 38), none⟩,
    ⟨some 7, .mv (.t 39), none⟩] [1, 4, 5, 6] [1])
  (.reg [⟨some 40, .mv (.t 4), none⟩,
    ⟨some 41, .mv (.t 6), none⟩,
    ⟨some 42, .bin .add (.t 40) (.t 41), none⟩,
    ⟨some 4, .mv (.t 42), none⟩] [1, 4, 5] [1])))
  (.reg [⟨some 29, .mv (.t 5), none⟩,
    ⟨some 30, .bin .add (.t 29) (.k (.int .i64 1)), none⟩,
    ⟨some 5, .mv (.t 30), none⟩] [1, 4, 5] [1]))
def spec_StoreText.l1 : C := .seq (.seq (.reg [⟨some 49, .mv (.t 8), none⟩,
    ⟨some 50, .faddr 3 (.t 1), none⟩,
    ⟨some 51, .load false 1 (.t 50), none⟩,
    ⟨some 52, .len (.t 51), none⟩,
    ⟨some 53, .bin .lss (.t 49) (.t 52), none⟩] [1, 4, 8, 53] [1])
  (.cond (.t 53) (.skip) (.exit 2)))
  (.seq (.block 3 (.reg [⟨some 56, .mv (.t 4), none⟩,
    ⟨some 57, .faddr 3 (.t 1), none⟩,
    ⟨some 58, .load false 1 (.t 57), none⟩,
    ⟨some 59, .mv (.t 8), none⟩,
    ⟨some 60, .iaddr 1 (.t 58) (.t 59), none⟩,
    ⟨some 61, .load false 1 (.t 60), none⟩,
    ⟨some 62, .call 99 [.t 61] [] [], none⟩,
    ⟨some 63, .bin .add (.t 56) (.t 62), none⟩,
    ⟨some 4, .mv (.t 63), none⟩] [1, 4, 8] [1]))
  (.reg [⟨some 54, .mv (.t 8), none⟩,
    ⟨some 55, .bin .add (.t 54) (.k (.int .i64 1)), none⟩,
    ⟨some 8, .mv (.t 55), none⟩] [1, 4, 8] [1]))
def spec_StoreText.b : C := .seq (.reg [⟨some 1, .box (.t 0), none⟩,
    ⟨some 2, .mv (.k (.str ⟨#[]⟩)), none⟩,
    ⟨some 3, .mv (.k (.bool false)), none⟩] [1] [1])
  (.seq (.seq (.reg [⟨some 9, .load true 4 (.t 1), none⟩,
    ⟨some 10, .call 149 [.t 9] [] [], none⟩,
    ⟨some 11, .not (.t 10), none⟩] [1, 11] [1])
  (.cond (.t 11) (.seq (.reg [⟨some 2, .mv (.k (.str ⟨#[]⟩)), none⟩,
    ⟨some 3, .mv (.k (.bool false)), none⟩] [2, 3] [])
  (.ret)) (.skip)))
  (.seq (.regd [⟨some 12, .faddr 0 (.t 1), none⟩,
    ⟨some 13, .load false 1 (.t 12), none⟩,
    ⟨some 14, .call 99 [.t 13] [] [], none⟩,
    ⟨some 15, .faddr 1 (.t 1), none⟩,
    ⟨some 16, .load false 1 (.t 15), none⟩,
    ⟨some 17, .call 99 [.t 16] [] [], none⟩,
    ⟨some 18, .bin .add (.t 14) (.t 17), none⟩,
    ⟨some 19, .faddr 2 (.t 1), none⟩,
    ⟨some 20, .load false 1 (.t 19), none⟩,
    ⟨some 21, .len (.t 20), none⟩,
    ⟨some 22, .call 99 [.t 21] [] [], none⟩,
    ⟨some 23, .bin .add (.t 18) (.t 22), none⟩,
    ⟨some 4, .mv (.t 23), none⟩] [[], [0], [0, 1], [], [3], List.range 5, List.range 6, [], [7], [7, 8], List.range 6 ++ [7, 8, 9], List.range 11, List.range 12] [1, 4] [1])
  (.seq (.seq (.reg [⟨some 5, .mv (.k (.int .i64 0)), none⟩] [1, 4, 5] [1])
  (.block 0 (.loop spec_StoreText.l0)))
  (.seq (.reg [⟨some 43, .mv (.t 4), none⟩,
    ⟨some 44, .faddr 3 (.t 1), none⟩,
    ⟨some 45, .load false 1 (.t 44), none⟩,
    ⟨some 46, .len (.t 45), none⟩,
    ⟨some 47, .call 99 [.t 46] [] [], none⟩,
    ⟨some 48, .bin .add (.t 43) (.t 47), none⟩,
    ⟨some 4, .mv (.t 48), none⟩] [1, 4] [1])
  (.seq (.seq (.reg [⟨some 8, .mv (.k (.int .i64 0)), none⟩] [1, 4, 8] [1])
  (.block 2 (.loop spec_StoreText.l1)))
  (.seq (.reg [⟨some 64, .mv (.t 4), none⟩,
    ⟨some 65, .call 100 [.t 64] [] [], none⟩,
    ⟨some 66, .ext 0 (.t 65), none⟩,
    ⟨some 67, .ext 1 (.t 65), none⟩,
    ⟨some 2, .mv (.t 66), none⟩,
    ⟨some 3, .mv (.t 67), none⟩] [2, 3] [])
  (.ret)))))))
def spec_StoreText.m : Fn := { np := 1, body := spec_StoreText.b, res := [.tmp 2, .tmp 3] }
def spec_StoreText.k (M : Nat → Option Body) : Prop := M 60 = some (.code spec_StoreText.m) ∧ spec_BoxText.k M ∧ spec_l01Var.k M ∧ spec_Sealed.k M ∧ spec_StoreOk.k M
def spec_ReadStore.l0 : C := .seq (.seq (.reg [⟨some 33, .mv (.t 9), none⟩,
    ⟨some 34, .mv (.t 8), none⟩,
    ⟨some 35, .bin .lss (.t 33) (.t 34), none⟩,
    ⟨some 36, .mv (.t 35), none⟩,
    ⟨some 37, .mv (.t 9), some (36, true)⟩,
    ⟨some 38, .bin .leq (.t 37) (.k (.int .i64 5)), some (36, true)⟩,
    ⟨some 39, .pick (.t 36) (.t 38) (.k (.bool false)), none⟩,
    ⟨some 40, .mv (.t 39), none⟩,
    ⟨some 41, .mv (.t 6), some (40, true)⟩,
    ⟨some 42, .nilc (.t 41), some (40, true)⟩,
    ⟨some 43, .faddr 2 (.t 42), some (40, true)⟩,
    ⟨some 44, .load false 1 (.t 43), some (40, true)⟩,
    ⟨some 45, .not (.t 44), some (40, true)⟩,
    ⟨some 46, .pick (.t 40) (.t 45) (.k (.bool false)), none⟩] [0, 2, 4, 6, 7, 8, 9, 46] [2, 7, 24, 66, 17300])
  (.cond (.t 46) (.skip) (.exit 0)))
  (.seq (.block 1 (.seq (.reg [⟨some 50, .mv (.t 4), none⟩,
    ⟨some 51, .mv (.t 6), none⟩,
    ⟨some 52, .nilc (.t 51), none⟩,
    ⟨some 53, .faddr 1 (.t 52), none⟩,
    ⟨some 54, .load false 1 (.t 53), none⟩,
    ⟨some 55, .call 52 [.t 50, .t 54] [] [], none⟩,
    ⟨some 49, .mv (.t 55), none⟩,
    ⟨some 56, .ext 0 (.t 49), none⟩,
    ⟨some 57, .ext 1 (.t 49), none⟩,
    ⟨some 58, .ext 2 (.t 49), none⟩,
    ⟨some 10, .alloc [.int .i64 0, .str ⟨#[]⟩, .int .i64 0, .int .i64 0, .int .i64 0, .nils 4, .nils 1], none⟩,
    ⟨none, .store 7 (.t 10) (.t 56), none⟩,
    ⟨some 11, .mv (.t 57), none⟩,
    ⟨some 12, .mv (.t 58), none⟩] [0, 2, 4, 6, 7, 8, 9, 10, 11, 12] [2, 7, 10, 24, 66, 17300])
  (.seq (.seq (.reg [⟨some 59, .mv (.t 12), none⟩,
    ⟨some 60, .not (.t 59), none⟩] [0, 2, 4, 6, 7, 8, 9, 10, 11, 60] [2, 7, 10, 24, 66, 17300])
  (.cond (.t 60) (.seq (.reg [⟨some 61, .build [.int .i64 0, .int .i64 0, .nils 7, .nils 1] [], none⟩,
    ⟨none, .store 4 (.t 2) (.t 61), none⟩,
    ⟨some 3, .mv (.k (.bool false)), none⟩] [2, 3] [2, 66, 17300])
  (.ret)) (.skip)))
  (.seq (.reg [⟨some 62, .faddr 2 (.t 7), none⟩,
    ⟨some 63, .load false 1 (.t 62), none⟩,
    ⟨some 64, .load true 7 (.t 10), none⟩,
    ⟨some 65, .bslice 7 1 [.int .i64 0, .str ⟨#[]⟩, .int .i64 0, .int .i64 0, .int .i64 0, .nils 4, .nils 1] [(0, .t 64)], none⟩,
    ⟨some 66, .app 7 96 (.t 63) (.t 65), none⟩,
    ⟨some 67, .faddr 2 (.t 7), none⟩,
    ⟨none, .store 1 (.t 67) (.t 66), none⟩] [0, 2, 4, 6, 7, 8, 9, 11] [2, 7, 24, 66, 17300])
  (.reg [⟨some 68, .mv (.t 6), none⟩,
    ⟨some 69, .mv (.t 11), none⟩,
    ⟨some 70, .nilc (.t 68), none⟩,
    ⟨some 71, .faddr 1 (.t 70), none⟩,
    ⟨none, .store 1 (.t 71) (.t 69), none⟩] [0, 2, 4, 6, 7, 8, 9] [2, 7, 24, 66, 17300])))))
  (.reg [⟨some 47, .mv (.t 9), none⟩,
    ⟨some 48, .bin .add (.t 47) (.k (.int .i64 1)), none⟩,
    ⟨some 9, .mv (.t 48), none⟩] [0, 2, 4, 6, 7, 8, 9] [2, 7, 24, 66, 17300]))
def spec_ReadStore.b : C := .seq (.reg [⟨some 2, .alloc [.int .i64 0, .int .i64 0, .nils 7, .nils 1], none⟩,
    ⟨some 3, .mv (.k (.bool false)), none⟩] [0, 2] [2, 66, 17300])
  (.seq (.reg [⟨some 16, .mv (.t 0), none⟩,
    ⟨some 17, .call 167 [.t 16] [] [], none⟩,
    ⟨some 15, .mv (.t 17), none⟩,
    ⟨some 18, .ext 0 (.t 15), none⟩,
    ⟨some 19, .ext 1 (.t 15), none⟩,
    ⟨some 4, .mv (.t 18), none⟩,
    ⟨some 5, .mv (.t 19), none⟩] [0, 2, 4, 5] [2, 66, 17300])
  (.seq (.reg [⟨some 20, .mv (.t 4), none⟩,
    ⟨some 21, .mv (.t 5), none⟩,
    ⟨some 22, .not (.t 21), none⟩,
    ⟨some 23, .build [.str ⟨#[]⟩, .int .i64 0, .bool false] [(0, 1, .t 20), (2, 1, .t 22)], none⟩,
    ⟨some 24, .box (.t 23), none⟩,
    ⟨some 6, .mv (.t 24), none⟩] [0, 2, 4, 6] [2, 24, 66, 17300])
  (.seq (.reg [⟨some 25, .mv (.t 6), none⟩,
    ⟨some 26, .call 139 [.t 25] [0] [], none⟩,
    ⟨some 27, .build [.int .i64 0, .int .i64 0, .nils 7, .nils 1] [(0, 1, .t 26)], none⟩,
    ⟨some 7, .alloc [.int .i64 0, .int .i64 0, .nils 7, .nils 1], none⟩,
    ⟨none, .store 4 (.t 7) (.t 27), none⟩] [0, 2, 4, 6, 7] [2, 7, 24, 66, 17300])
  (.seq (.reg [⟨some 28, .mv (.t 6), none⟩,
    ⟨some 29, .call 139 [.t 28] [0] [], none⟩,
    ⟨some 30, .faddr 1 (.t 7), none⟩,
    ⟨none, .store 1 (.t 30) (.t 29), none⟩] [0, 2, 4, 6, 7] [2, 7, 24, 66, 17300])
  (.seq (.reg [⟨some 31, .mv (.t 6), none⟩,
    ⟨some 32, .call 139 [.t 31] [0] [], none⟩,
    ⟨some 8, .mv (.t 32), none⟩] [0, 2, 4, 6, 7, 8] [2, 7, 24, 66, 17300])
  (.seq (.seq (.reg [⟨some 9, .mv (.k (.int .i64 0)), none⟩] [0, 2, 4, 6, 7, 8, 9] [2, 7, 24, 66, 17300])
  (.block 0 (.loop spec_ReadStore.l0)))
  (.seq (.reg [⟨some 72, .mv (.t 6), none⟩,
    ⟨some 73, .call 142 [.t 72, .k (.int .i64 20)] [0] [(0, 17300)], none⟩,
    ⟨some 74, .faddr 3 (.t 7), none⟩,
    ⟨none, .store 1 (.t 74) (.t 73), none⟩] [0, 2, 6, 7] [2, 7, 24, 66, 17300])
  (.seq (.reg [⟨some 76, .load true 4 (.t 7), none⟩,
    ⟨some 77, .call 60 [.t 76] [] [], none⟩,
    ⟨some 75, .mv (.t 77), none⟩,
    ⟨some 78, .ext 0 (.t 75), none⟩,
    ⟨some 79, .ext 1 (.t 75), none⟩,
    ⟨some 13, .mv (.t 78), none⟩,
    ⟨some 14, .mv (.t 79), none⟩] [0, 2, 6, 7, 13, 14] [2, 7, 24, 66, 17300])
  (.seq (.seq (.reg [⟨some 80, .mv (.t 6), none⟩,
    ⟨some 81, .nilc (.t 80), none⟩,
    ⟨some 82, .faddr 2 (.t 81), none⟩,
    ⟨some 83, .load false 1 (.t 82), none⟩,
    ⟨some 84, .mv (.t 83), none⟩,
    ⟨some 85, .mv (.t 14), some (84, false)⟩,
    ⟨some 86, .not (.t 85), some (84, false)⟩,
    ⟨some 87, .pick (.t 84) (.k (.bool true)) (.t 86), none⟩,
    ⟨some 88, .mv (.t 87), none⟩,
    ⟨some 89, .mv (.t 13), some (88, false)⟩,
    ⟨some 90, .mv (.t 0), some (88, false)⟩,
    ⟨some 91, .bin .neq (.t 89) (.t 90), some (88, false)⟩,
    ⟨some 92, .pick (.t 88) (.k (.bool true)) (.t 91), none⟩] [2, 7, 92] [2, 7, 66, 17300])
  (.cond (.t 92) (.seq (.reg [⟨some 93, .build [.int .i64 0, .int .i64 0, .nils 7, .nils 1] [], none⟩,
    ⟨none, .store 4 (.t 2) (.t 93), none⟩,
    ⟨some 3, .mv (.k (.bool false)), none⟩] [2, 3] [2, 66, 17300])
  (.ret)) (.skip)))
  (.seq (.reg [⟨some 94, .load true 4 (.t 7), none⟩,
    ⟨none, .store 4 (.t 2) (.t 94), none⟩,
    ⟨some 3, .mv (.k (.bool true)), none⟩] [2, 3] [2, 66, 17300])
  (.ret)))))))))))
def spec_ReadStore.m : Fn := { np := 1, body := spec_ReadStore.b, res := [.cell 2 true 4, .tmp 3] }
def spec_ReadStore.k (M : Nat → Option Body) : Prop := M 75 = some (.code spec_ReadStore.m) ∧ spec_ReadBox.k M ∧ spec_StoreText.k M ∧ spec_l05Var.k M ∧ spec_l10Ints.k M ∧ spec_Unsealed.k M
def impl_ReadStore.l0 : C := .seq (.reg [⟨some 28, .bin .lss (.t 27) (.t 26), none⟩] [2, 4, 5, 6, 7, 26, 27, 28] [2, 7, 17, 35, 13900])
  (.seq (.cond (.t 28) (.skip) (.exit 0))
  (.seq (.block 1 (.seq (.reg [⟨some 29, .mv (.t 6), none⟩,
    ⟨some 30, .call 143 [.t 29] [0] [], none⟩,
    ⟨some 9, .alloc [.int .i64 0, .str ⟨#[]⟩, .int .i64 0, .int .i64 0, .int .i64 0, .nils 4, .nils 1], none⟩,
    ⟨none, .store 7 (.t 9) (.t 30), none⟩] [2, 4, 5, 6, 7, 9, 26, 27] [2, 7, 9, 17, 35, 13900])
  (.reg [⟨some 31, .faddr 2 (.t 7), none⟩,
    ⟨some 32, .load false 1 (.t 31), none⟩,
    ⟨some 33, .load true 7 (.t 9), none⟩,
    ⟨some 34, .bslice 7 1 [.int .i64 0, .str ⟨#[]⟩, .int .i64 0, .int .i64 0, .int .i64 0, .nils 4, .nils 1] [(0, .t 33)], none⟩,
    ⟨some 35, .app 7 96 (.t 32) (.t 34), none⟩,
    ⟨some 36, .faddr 2 (.t 7), none⟩,
    ⟨none, .store 1 (.t 36) (.t 35), none⟩] [2, 4, 5, 6, 7, 26, 27] [2, 7, 17, 35, 13900])))
  (.reg [⟨some 37, .bin .add (.t 27) (.k (.int .i64 1)), none⟩,
    ⟨some 27, .mv (.t 37), none⟩] [2, 4, 5, 6, 7, 26, 27] [2, 7, 17, 35, 13900])))
def impl_ReadStore.b : C := .seq (.reg [⟨some 2, .alloc [.int .i64 0, .int .i64 0, .nils 7, .nils 1], none⟩,
    ⟨some 3, .mv (.k (.bool false)), none⟩] [0, 2] [2, 35, 13900])
  (.seq (.reg [⟨some 11, .mv (.t 0), none⟩,
    ⟨some 12, .call 168 [.t 11] [] [], none⟩,
    ⟨some 10, .mv (.t 12), none⟩,
    ⟨some 13, .ext 0 (.t 10), none⟩,
    ⟨some 14, .ext 1 (.t 10), none⟩,
    ⟨some 4, .mv (.t 13), none⟩,
    ⟨some 5, .mv (.t 14), none⟩] [2, 4, 5] [2, 35, 13900])
  (.seq (.reg [⟨some 15, .mv (.t 4), none⟩,
    ⟨some 16, .build [.str ⟨#[]⟩, .int .i64 0, .bool false] [(0, 1, .t 15)], none⟩,
    ⟨some 17, .box (.t 16), none⟩,
    ⟨some 6, .mv (.t 17), none⟩] [2, 4, 5, 6] [2, 17, 35, 13900])
  (.seq (.reg [⟨some 18, .mv (.t 6), none⟩,
    ⟨some 19, .call 152 [.t 18] [0] [], none⟩,
    ⟨some 20, .build [.int .i64 0, .int .i64 0, .nils 7, .nils 1] [(0, 1, .t 19)], none⟩,
    ⟨some 7, .alloc [.int .i64 0, .int .i64 0, .nils 7, .nils 1], none⟩,
    ⟨none, .store 4 (.t 7) (.t 20), none⟩] [2, 4, 5, 6, 7] [2, 7, 17, 35, 13900])
  (.seq (.reg [⟨some 21, .mv (.t 6), none⟩,
    ⟨some 22, .call 152 [.t 21] [0] [], none⟩,
    ⟨some 23, .faddr 1 (.t 7), none⟩,
    ⟨none, .store 1 (.t 23) (.t 22), none⟩] [2, 4, 5, 6, 7] [2, 7, 17, 35, 13900])
  (.seq (.reg [⟨some 24, .mv (.t 6), none⟩,
    ⟨some 25, .call 169 [.t 24, .k (.int .i64 5)] [0] [], none⟩,
    ⟨some 8, .mv (.t 25), none⟩] [2, 4, 5, 6, 7, 8] [2, 7, 17, 35, 13900])
  (.seq (.seq (.reg [⟨some 26, .mv (.t 8), none⟩,
    ⟨some 27, .mv (.k (.int .i64 0)), none⟩] [2, 4, 5, 6, 7, 26, 27] [2, 7, 17, 35, 13900])
  (.block 0 (.loop impl_ReadStore.l0)))
  (.seq (.reg [⟨some 38, .mv (.t 6), none⟩,
    ⟨some 39, .call 170 [.t 38, .k (.int .i64 20)] [0] [(0, 13900)], none⟩,
    ⟨some 40, .faddr 3 (.t 7), none⟩,
    ⟨none, .store 1 (.t 40) (.t 39), none⟩] [2, 4, 5, 6, 7] [2, 7, 17, 35, 13900])
  (.seq (.seq (.reg [⟨some 41, .mv (.t 5), none⟩,
    ⟨some 42, .not (.t 41), none⟩,
    ⟨some 43, .mv (.t 42), none⟩,
    ⟨some 44, .mv (.t 6), some (43, false)⟩,
    ⟨some 45, .nilc (.t 44), some (43, false)⟩,
    ⟨some 46, .faddr 2 (.t 45), some (43, false)⟩,
    ⟨some 47, .load false 1 (.t 46), some (43, false)⟩,
    ⟨some 48, .pick (.t 43) (.k (.bool true)) (.t 47), none⟩,
    ⟨some 49, .mv (.t 48), none⟩,
    ⟨some 50, .mv (.t 6), some (49, false)⟩,
    ⟨some 51, .nilc (.t 50), some (49, false)⟩,
    ⟨some 52, .faddr 1 (.t 51), some (49, false)⟩,
    ⟨some 53, .load false 1 (.t 52), some (49, false)⟩,
    ⟨some 54, .mv (.t 4), some (49, false)⟩,
    ⟨some 55, .slen (.t 54), some (49, false)⟩,
    ⟨some 56, .bin .neq (.t 53) (.t 55), some (49, false)⟩,
    ⟨some 57, .pick (.t 49) (.k (.bool true)) (.t 56), none⟩,
    ⟨some 58, .mv (.t 57), none⟩,
    ⟨some 59, .load true 4 (.t 7), some (58, false)⟩,
    ⟨some 60, .call 150 [.t 59] [] [], some (58, false)⟩,
    ⟨some 61, .not (.t 60), some (58, false)⟩,
    ⟨some 62, .pick (.t 58) (.k (.bool true)) (.t 61), none⟩] [2, 7, 62] [2, 7, 35, 13900])
  (.cond (.t 62) (.seq (.reg [⟨some 63, .build [.int .i64 0, .int .i64 0, .nils 7, .nils 1] [], none⟩,
    ⟨none, .store 4 (.t 2) (.t 63), none⟩,
    ⟨some 3, .mv (.k (.bool false)), none⟩] [2, 3] [2, 35, 13900])
  (.ret)) (.skip)))
  (.seq (.reg [⟨some 64, .load true 4 (.t 7), none⟩,
    ⟨none, .store 4 (.t 2) (.t 64), none⟩,
    ⟨some 3, .mv (.k (.bool true)), none⟩] [2, 3] [2, 35, 13900])
  (.ret))))))))))
def impl_ReadStore.m : Fn := { np := 1, body := impl_ReadStore.b, res := [.cell 2 true 4, .tmp 3] }
def impl_ReadStore.k (M : Nat → Option Body) : Prop := M 76 = some (.code impl_ReadStore.m) ∧ impl_scan_box.k M ∧ impl_StoreOk.k M ∧ impl_scan_num.k M ∧ impl_Unsealed.k M ∧ impl_scan_many.k M ∧ impl_scan_nums.k M
end Mx

/-
  Texts of stores.
-/
namespace Mx
open Go
variable {M : Nat → Option Body}
theorem storeOk_vars {s : Store} (h : storeOk s = true) : isVar s.who ∧ isVar s.time ∧ s.boxes.length ≤ 5 ∧ s.gone.length ≤ 20 ∧ (∀ n ∈ s.gone, isVar n) ∧ (∀ b ∈ s.boxes, boxOk b = true) ∧ 1 ≤ s.who ∧ s.who ≤ 2 := by
  simp only [storeOk, Bool.and_eq_true, decide_eq_true_eq, Option.isNone_iff_eq_none, firstN_isNone, inR_iff] at h
  obtain ⟨⟨⟨⟨h1, h2⟩, h3⟩, h4⟩, h5⟩ := h
  have hg := gidsOk_vars h4
  refine ⟨⟨by omega, by omega⟩, ⟨by omega, by omega⟩, h3, by omega, fun n hn => ⟨by have := hg.2 n hn; omega, by have := hg.2 n hn; omega⟩, fun b hb => ?_, h1.1, h1.2⟩
  obtain ⟨i, hi, rfl⟩ := List.getElem_of_mem hb
  have := h5 i hi
  rw [badAt_at hi, badBox_at hi] at this
  simp at this
  exact this.1.1.1.1.1
theorem boxT_len {b : Box} (h : boxOk b = true) : (boxT b).length ≤ 11000 := by
  obtain ⟨v1, v2, v3, v4, v5, v6, v7, v8, v9⟩ := boxOk_vars h
  have := boxP_len h
  have := texts_len varI b.gone 10 fun n hn => isVar_len (v8 n hn)
  have := texts_len mailT b.mails 1000 fun m hm => mailT_len (v9 m hm)
  have := varT_len (n := b.gone.length) (by omega)
  simp only [boxT, List.length_append]; omega
/-- ahead of the boxes -/
def storeP (s : Store) : List UInt8 := varI s.who ++ (varI s.time ++ varT s.boxes.length)
def storeT (s : Store) : List UInt8 := storeP s ++ (texts boxT s.boxes ++ (varT s.gone.length ++ texts varI s.gone))
def storeText (s : Store) : List UInt8 × Bool := if storeOk s = true then sealed (storeT s) else ([], false)
theorem storeP_len {s : Store} (h : storeOk s = true) : (storeP s).length ≤ 30 := by
  obtain ⟨v1, v2, v3, v4, v5, v6, _⟩ := storeOk_vars h
  have := isVar_len v1; have := isVar_len v2; have := varT_len (n := s.boxes.length) (by omega)
  simp only [storeP, List.length_append]; omega
def sxS (s : Store) (i : Nat) (t : List UInt8) (x : Nat × Nat) : St := { t := [(1, .c (.ptr 1 x.1 0 0)), (4, .c (S t)), (5, .c (I i))], o := [(1, ⟨x.1, 4, true, true, [encStore s]⟩)], n := x.2 }
def sxE (s : Store) (t : List UInt8) (x : Nat × Nat) : St := { t := [(1, .c (.ptr 1 x.1 0 0)), (4, .c (S t)), (5, .c (I s.boxes.length)), (28, .c (.bool false))], o := [(1, ⟨x.1, 4, true, true, [encStore s]⟩)], n := x.2 }
def sx2S (s : Store) (i : Nat) (t : List UInt8) (x : Nat × Nat) : St := { t := [(1, .c (.ptr 1 x.1 0 0)), (4, .c (S t)), (8, .c (I i))], o := [(1, ⟨x.1, 4, true, true, [encStore s]⟩)], n := x.2 }
def sx2E (s : Store) (t : List UInt8) (x : Nat × Nat) : St := { t := [(1, .c (.ptr 1 x.1 0 0)), (4, .c (S t)), (8, .c (I s.gone.length)), (53, .c (.bool false))], o := [(1, ⟨x.1, 4, true, true, [encStore s]⟩)], n := x.2 }
set_option maxHeartbeats 1000000 in
theorem spec_StoreText.says (h : spec_StoreText.k M) (s : Store) (hs : StoreIn s) : run M 60 [.a (encStore s)] [] = some (.tup [.c (S (storeText s).1), .c (.bool (storeText s).2)], []) := by
  obtain ⟨h0, kb, kv, kse, ko⟩ := h
  have h1 := spec_StoreOk.says ko s hs
  refine run_code (b := spec_StoreText.m) h0 ⟨s.boxes.length + s.gone.length + 1, ?_⟩
  simp only [encStore] at h1
  unfold storeText
  cases c : storeOk s
  · rw [c] at h1
    simp (maxSteps := 1000000) [exB, spec_StoreText.m, spec_StoreText.b, List.range_succ, bs_get, setAt, h1]
  rw [c] at h1
  obtain ⟨v1, v2, v3, v4, v5, v6, _⟩ := storeOk_vars c
  have g1 := spec_l01Var.int kv s.who v1.1 (by have := v1.2; omega)
  have g2 := spec_l01Var.int kv s.time v2.1 (by have := v2.2; omega)
  have g6 := spec_l01Var.says kv s.boxes.length (by omega)
  have g7 := spec_l01Var.says kv s.gone.length (by omega)
  have l1 := isVar_len v1; have l2 := isVar_len v2
  have l7 := varT_len (n := s.boxes.length) (by omega); have l8 := varT_len (n := s.gone.length) (by omega)
  have l9 := texts_len varI s.gone 10 fun n hn => isVar_len (v5 n hn)
  have l10 := texts_len boxT s.boxes 11000 fun b hb => boxT_len (v6 b hb)
  have hp := storeP_len c
  obtain ⟨g, hr⟩ := text_loop (f := exC (run M) (s.boxes.length + s.gone.length + 1) spec_StoreText.l0) s.boxes boxT 11000 30 (fun b hb => boxT_len (v6 b hb)) (sxS s) 0 (sxE s)
    (fun i hi t x ht => by
      obtain ⟨v, x⟩ := x
      have e5 : IntKind.i64.wrap ((i : Int) + 1) = (i : Int) + 1 := wrap_i64 (by omega) (by omega)
      have hx := v6 _ (List.getElem_mem hi)
      have hin := (hs.i _ (List.getElem_mem hi)).ok
      have h6 := spec_BoxText.says kb s.boxes[i] hin.1 hin.2.1 hin.2.2.1 hin.2.2.2
      rw [if_pos hx, hx] at h6
      have h7 := boxT_len hx
      simp only [encBox] at h6
      simp only [Prod.exists]
      have e6 := str_add t (boxT s.boxes[i]) (by omega)
      simp (maxSteps := 1000000) [spec_StoreText.l0, List.range_succ, bs_get, setAt, sxS, hi, h6, e5, e6, encBox])
    (fun t x => by
      obtain ⟨v, x⟩ := x
      simp only [Prod.exists]
      simp (maxSteps := 1000000) [spec_StoreText.l0, List.range_succ, bs_get, setAt, sxS, sxE]) (storeP s) hp
  obtain ⟨g', hr'⟩ := text_loop (f := exC (run M) (s.boxes.length + s.gone.length + 1) spec_StoreText.l1) s.gone varI 10 56000 (fun n hn => isVar_len (v5 n hn)) (sx2S s) 2 (sx2E s)
    (fun i hi t x ht => by
      obtain ⟨v, x⟩ := x
      have e5 : IntKind.i64.wrap ((i : Int) + 1) = (i : Int) + 1 := wrap_i64 (by omega) (by omega)
      have hx := v5 _ (List.getElem_mem hi)
      have h6 := spec_l01Var.int kv s.gone[i] hx.1 (by have := hx.2; omega)
      have h7 := isVar_len hx
      simp only [Prod.exists]
      have e6 := str_add t (varI s.gone[i]) (by omega)
      simp (maxSteps := 1000000) [spec_StoreText.l1, List.range_succ, bs_get, setAt, sx2S, hi, h6, e5, e6])
    (fun t x => by
      obtain ⟨v, x⟩ := x
      simp only [Prod.exists]
      simp (maxSteps := 1000000) [spec_StoreText.l1, List.range_succ, bs_get, setAt, sx2S, sx2E]) (storeP s ++ texts boxT s.boxes ++ varT s.gone.length) (by simp; omega)
  have e1 := str_add (varI s.who) (varI s.time) (by omega)
  have e2 := str_add (varI s.who ++ varI s.time) (varT s.boxes.length) (by simp; omega)
  have e3 : storeP s = varI s.who ++ varI s.time ++ varT s.boxes.length := by simp [storeP]
  rw [← e3] at e2
  have e8 := str_add (storeP s ++ texts boxT s.boxes) (varT s.gone.length) (by simp; omega)
  have hse := spec_Sealed.says kse (storeT s) (by simp only [storeT, List.length_append]; omega)
  simp only [storeT] at hse ⊢
  simp only [List.append_assoc] at e1 e2 e8 hse
  simp [sxS, sxE] at hr
  simp [sx2S, sx2E] at hr'
  have hr2 := fun x y => loopN_le (hr x y) (show s.boxes.length + 1 ≤ s.boxes.length + s.gone.length + 1 by omega)
  have hr3 := fun x y => loopN_le (hr' x y) (show s.gone.length + 1 ≤ s.boxes.length + s.gone.length + 1 by omega)
  generalize storeP s = p at *
  generalize texts boxT s.boxes = q at *
  generalize texts varI s.gone = r at *
  simp (maxSteps := 1000000) [exB, spec_StoreText.m, spec_StoreText.b, List.range_succ, bs_get, setAt, hr2, hr3, h1, g1, g2, g6, g7, e1, e2, e8, hse]
end Mx

/-
  What is read of stores: this side.
-/
namespace Mx
open Go
variable {M : Nat → Option Body}
def cstore (u : List UInt8) (c : Cur) : Store × Cur :=
  let w := cvar u c
  let t := cvar u w.2
  let k := cmany u 5 t.2
  let bs := crep (cbox u) k.1.toNat k.2
  let go := cnums u 20 bs.2
  (⟨w.1, t.1, bs.1, go.1⟩, go.2)
def store0 : Store := ⟨0, 0, [], []⟩
def readStore (l : List UInt8) : Store × Bool :=
  if (unsealed l).2 = true ∧ (cstore (unsealed l).1 (0, false)).2.2 = false ∧ (cstore (unsealed l).1 (0, false)).2.1 = (unsealed l).1.length ∧ storeOk (cstore (unsealed l).1 (0, false)).1 = true
  then ((cstore (unsealed l).1 (0, false)).1, true) else (store0, false)
theorem crep_all {α : Type} {p : Cur → α × Cur} {Q : α → Prop} (h : ∀ c, Q (p c).1) : ∀ n c, ∀ x ∈ (crep p n c).1, Q x
  | 0, c, x, hx => by simp [crep] at hx
  | n + 1, c, x, hx => by
    simp only [crep] at hx
    rcases List.mem_cons.1 hx with rfl | hx
    · exact h c
    · exact crep_all h n _ x hx
theorem cnums_len (l : List UInt8) (most : Nat) (c : Cur) : (cnums l most c).1.length ≤ most := by
  have := cmany_nn l most c
  unfold cnums; rw [crep_len]; omega
/-- a box as it is read is small -/
structure BoxRd (u : List UInt8) (b : Box) : Prop where
  m : b.mails.length ≤ 10
  g : b.gone.length ≤ 40
  n : b.name.length ≤ u.length
  f : ∀ m ∈ b.mails, m.flags.length = 3
theorem cbox_rd (u : List UInt8) (c : Cur) : BoxRd u (cbox u c).1 := by
  have hn := cmany_nn u 10 (cboxH u c).2
  refine ⟨?_, ?_, ?_, ?_⟩
  · simp only [cbox, crep_len]; omega
  · have := cnums_len u 40 (crep (cmail u) (cmany u 10 (cboxH u c).2).1.toNat (cmany u 10 (cboxH u c).2).2).2
    exact this
  · exact cshort_len u _
  · exact crep_all (fun c => cmail_flags u c) _ _
theorem BoxRd.is {u : List UInt8} {b : Box} (h : BoxRd u b) (hu : u.length ≤ 1048576) : BoxIn b := ⟨by have := h.m; omega, by have := h.g; omega, by have := h.n; omega, fun m hm => by rw [h.f m hm]; omega⟩
theorem flat_le {α : Type} (f : α → List Int) (k : Nat) : ∀ (l : List α), (∀ x ∈ l, (f x).length ≤ k) → (l.flatMap f).length ≤ l.length * k
  | [], _ => by simp
  | x :: l, h => by
    have h1 := flat_le f k l fun y hy => h y (List.mem_cons_of_mem _ hy)
    have h2 := h x (List.mem_cons_self ..)
    have : (l.length + 1) * k = l.length * k + k := Nat.succ_mul _ _
    simp only [List.flatMap_cons, List.length_append, List.length_cons]; omega
theorem storeIn_rd {u : List UInt8} {s : Store} (hu : u.length ≤ 1048576) (h1 : s.boxes.length ≤ 10) (h2 : s.gone.length ≤ 100) (h3 : ∀ b ∈ s.boxes, BoxRd u b) : StoreIn s := by
  refine ⟨by omega, by omega, fun b hb => (h3 b hb).is hu, ?_⟩
  have := flat_le gidsOf 10 s.boxes fun b hb => by rw [gidsOf_len]; exact (h3 b hb).m
  omega
abbrev szero : List T := [I 0, I 0, .nils 7, .nils 1]
def rsO (w t : Int) (i : Nat) (acc : List Box) (v : Nat) (u : List UInt8) (c : Cur) (x : Four) : List (Nat × Ob) := [(2, ⟨x.a, 4, true, true, [szero]⟩), (7, ⟨x.b, 4, true, true, [[I w, I t, if i = 0 then .nils 7 else .row 35 x.c 0 i, .nils 1]]⟩), (17, curO v u c)] ++ if i = 0 then [] else [(35, ⟨x.c, 7, true, false, acc.map encBox⟩)]
def rsS (u : List UInt8) (ok : Bool) (w t : Int) (n i : Nat) (acc : List Box) (c : Cur) (x : Four) : St := { t := [(2, .c (.ptr 2 x.a 0 0)), (4, .c (S u)), (5, .c (.bool ok)), (6, .c (.ptr 17 2000176 0 0)), (7, .c (.ptr 7 x.b 0 0)), (26, .c (I n)), (27, .c (I i))], o := rsO w t i acc 2000176 u c x, n := x.d }
def rsE (u : List UInt8) (ok : Bool) (w t : Int) (n : Nat) (acc : List Box) (c : Cur) (x : Four) : St := { t := [(2, .c (.ptr 2 x.a 0 0)), (4, .c (S u)), (5, .c (.bool ok)), (6, .c (.ptr 17 2000176 0 0)), (7, .c (.ptr 7 x.b 0 0)), (26, .c (I n)), (27, .c (I n)), (28, .c (.bool false))], o := rsO w t n acc 2000176 u c x, n := x.d }
set_option maxHeartbeats 1000000 in
theorem impl_ReadStore.says (h : impl_ReadStore.k M) (l : List UInt8) (hl : l.length ≤ 1048576) :
    run M 76 [.c (S l)] [] = some (.tup [.a (encStoreO (readStore l).1), .c (.bool (readStore l).2)], []) := by
  obtain ⟨h0, k1, k2, k3, k4, k5, k6⟩ := h
  have h1 := impl_Unsealed.says k4 l (by omega)
  have hu : (unsealed l).1.length ≤ 1048576 := by unfold unsealed; split <;> simp; omega
  unfold readStore
  generalize unsealed l = un at *
  obtain ⟨u, ok⟩ := un
  simp only at hu ⊢
  have hu2 : u.length ≤ 4611686018427387904 := by omega
  have h2 := impl_scan_num.at k3 u hu2 0 false
  have h3 := impl_scan_num.says k3 u hu2 (cvar u (0, false)).2
  have e0 : cstore u (0, false) = (⟨(cvar u (0, false)).1, (cvar u (cvar u (0, false)).2).1, (crep (cbox u) (cmany u 5 (cvar u (cvar u (0, false)).2).2).1.toNat (cmany u 5 (cvar u (cvar u (0, false)).2).2).2).1, (cnums u 20 (crep (cbox u) (cmany u 5 (cvar u (cvar u (0, false)).2).2).1.toNat (cmany u 5 (cvar u (cvar u (0, false)).2).2).2).2).1⟩, (cnums u 20 (crep (cbox u) (cmany u 5 (cvar u (cvar u (0, false)).2).2).1.toNat (cmany u 5 (cvar u (cvar u (0, false)).2).2).2).2).2) := rfl
  rw [e0]
  clear e0
  generalize cvar u (0, false) = q1 at *
  generalize cvar u q1.2 = q2 at *
  have h4 := impl_scan_many.says k5 u hu2 5 q2.2
  have hn := cmany_nn u 5 q2.2
  generalize cmany u 5 q2.2 = q3 at *
  obtain ⟨n, c1⟩ := q3
  simp only at hn ⊢
  obtain ⟨n, rfl⟩ := Int.eq_ofNat_of_zero_le hn.1
  simp only [Int.toNat_natCast]
  refine run_code (b := impl_ReadStore.m) h0 ⟨n + 1, ?_⟩
  obtain ⟨g, hr⟩ := rep_loop (f := exC (run M) (n + 1) impl_ReadStore.l0) n (cbox u) (rsS u ok q1.1 q2.1 n) 0 (rsE u ok q1.1 q2.1 n)
    (fun i hi acc c x ha => by
      obtain ⟨v, w, z, x⟩ := x
      have h2 := impl_scan_box.says k1 u hu2 c
      simp only [Four.ex]
      cases i with
      | zero =>
        have : acc = [] := List.eq_nil_of_length_eq_zero ha
        subst this
        simp (maxSteps := 1000000) [impl_ReadStore.l0, List.range_succ, bs_get, setAt, rsS, rsO, hi, h2, wrap_one, encBoxO, encBox, ints]
      | succ i =>
        have e5 : IntKind.i64.wrap ((i : Int) + 1 + 1) = (i : Int) + 1 + 1 := wrap_i64 (by omega) (by omega)
        have e6 : i + 1 + 1 ≤ 4294967296 := by omega
        have e7 : (i : Int) + 1 < n := by omega
        simp (maxSteps := 1000000) [impl_ReadStore.l0, List.range_succ, bs_get, setAt, rsS, rsO, e7, h2, e5, e6, ha, encBoxO, encBox, ints, List.take_of_length_le])
    (fun acc c x ha => by
      obtain ⟨v, w, z, x⟩ := x
      simp only [Four.ex]
      by_cases hz : n = 0
      · subst hz
        simp (maxSteps := 1000000) [impl_ReadStore.l0, List.range_succ, bs_get, setAt, rsS, rsE, rsO]
      · simp (maxSteps := 1000000) [impl_ReadStore.l0, List.range_succ, bs_get, setAt, rsS, rsE, rsO, hz]) c1
  have hlen := crep_len (cbox u) n c1
  have hall := crep_all (fun c => cbox_rd u c) n c1
  generalize crep (cbox u) n c1 = q4 at *
  have h5 := impl_scan_nums.says k6 u hu2 20 q4.2
  have hgl := cnums_len u 20 q4.2
  simp only [Int.cast_ofNat_Int] at hgl
  generalize cnums u 20 q4.2 = q5 at *
  have h6 := impl_StoreOk.says k2 ⟨q1.1, q2.1, q4.1, q5.1⟩ (storeIn_rd (u := u) hu (by simp only [hlen]; omega) (by simp only; omega) hall)
  simp only [encStore, boxes, ints, irow] at h6
  generalize storeOk _ = sk at *
  replace hr := fun a b d => hr ⟨a, b, 0, d⟩
  cases ok
  · by_cases hz : n = 0
    · subst hz
      have hq : q4.1 = [] := List.eq_nil_of_length_eq_zero hlen
      simp [rsS, rsE, rsO] at hr
      simp (maxSteps := 1000000) [exB, impl_ReadStore.m, impl_ReadStore.b, List.range_succ, bs_get, setAt, h1, h2, h3, h4, h5, hr, hq, store0, irow, List.take_of_length_le]
    · simp [rsS, rsE, rsO, hz] at hr
      simp (maxSteps := 1000000) [exB, impl_ReadStore.m, impl_ReadStore.b, List.range_succ, bs_get, setAt, h1, h2, h3, h4, h5, hr, hlen, store0, irow, List.take_of_length_le]
  cases c2 : q5.2.2
  rotate_left
  · by_cases hz : n = 0
    · subst hz
      have hq : q4.1 = [] := List.eq_nil_of_length_eq_zero hlen
      simp [rsS, rsE, rsO] at hr
      simp (maxSteps := 1000000) [exB, impl_ReadStore.m, impl_ReadStore.b, List.range_succ, bs_get, setAt, h1, h2, h3, h4, h5, hr, hq, c2, store0, irow, List.take_of_length_le]
    · simp [rsS, rsE, rsO, hz] at hr
      simp (maxSteps := 1000000) [exB, impl_ReadStore.m, impl_ReadStore.b, List.range_succ, bs_get, setAt, h1, h2, h3, h4, h5, hr, hlen, c2, store0, irow, List.take_of_length_le]
  by_cases c3 : q5.2.1 = (u.length : Int)
  rotate_left
  · by_cases hz : n = 0
    · subst hz
      have hq : q4.1 = [] := List.eq_nil_of_length_eq_zero hlen
      simp [rsS, rsE, rsO] at hr
      simp (maxSteps := 1000000) [exB, impl_ReadStore.m, impl_ReadStore.b, List.range_succ, bs_get, setAt, h1, h2, h3, h4, h5, hr, hq, c2, c3, store0, irow, List.take_of_length_le]
    · simp [rsS, rsE, rsO, hz] at hr
      simp (maxSteps := 1000000) [exB, impl_ReadStore.m, impl_ReadStore.b, List.range_succ, bs_get, setAt, h1, h2, h3, h4, h5, hr, hlen, c2, c3, store0, irow, List.take_of_length_le]
  by_cases hz : n = 0
  · subst hz
    have hq : q4.1 = [] := List.eq_nil_of_length_eq_zero hlen
    simp only [hq, List.map_nil] at h6
    simp [rsS, rsE, rsO] at hr
    cases sk <;> simp (maxSteps := 1000000) [exB, impl_ReadStore.m, impl_ReadStore.b, List.range_succ, bs_get, setAt, h1, h2, h3, h4, h5, h6, hr, hq, c2, c3, store0, irow, List.take_of_length_le]
  · simp [rsS, rsE, rsO, hz] at hr
    cases sk <;> simp (maxSteps := 1000000) [exB, impl_ReadStore.m, impl_ReadStore.b, List.range_succ, bs_get, setAt, h1, h2, h3, h4, h5, h6, hr, hlen, c2, c3, store0, irow, List.take_of_length_le]
end Mx

/-
  What is read of stores: the other side; it is the same.
-/
namespace Mx
open Go
variable {M : Nat → Option Body}
/-- boxes, as long as each is right -/
def cbok (l : List UInt8) : Nat → Cur → Option (List Box × Cur)
  | 0, c => some ([], c)
  | d + 1, c => if (cbox l c).2.2 = false ∧ boxOk (cbox l c).1 = true then (cbok l d (cbox l c).2).map fun r => ((cbox l c).1 :: r.1, r.2) else none
theorem cbox_bad (l : List UInt8) (c : Cur) (h : c.2 = true) : (cbox l c).2.2 = true := (cbox_spans l c).bad h
theorem cbok_some {l : List UInt8} : ∀ {d : Nat} {c : Cur} {r : List Box × Cur}, cbok l d c = some r → crep (cbox l) d c = r ∧ (∀ m ∈ r.1, boxOk m = true) ∧ (c.2 = false → r.2.2 = false) ∧ r.1.length = d ∧ ∀ m ∈ r.1, BoxRd l m
  | 0, c, r, h => by simp [cbok] at h; subst h; simp [crep]
  | d + 1, c, r, h => by
    simp only [cbok] at h
    split at h
    · rename_i hc
      simp only [Option.map_eq_some_iff] at h
      obtain ⟨q, hq, rfl⟩ := h
      obtain ⟨h1, h2, h3, h4, h5⟩ := cbok_some hq
      refine ⟨by simp [crep, h1], ?_, fun _ => h3 hc.1, by simp [h4], ?_⟩
      · intro m hm
        rcases List.mem_cons.1 hm with rfl | hm
        · exact hc.2
        · exact h2 m hm
      · intro m hm
        rcases List.mem_cons.1 hm with rfl | hm
        · exact cbox_rd l c
        · exact h5 m hm
    · cases h
theorem cbok_none {l : List UInt8} : ∀ {d : Nat} {c : Cur}, cbok l d c = none → (crep (cbox l) d c).2.2 = true ∨ ∃ m ∈ (crep (cbox l) d c).1, boxOk m = false
  | 0, c, h => by simp [cbok] at h
  | d + 1, c, h => by
    simp only [cbok] at h
    split at h
    · rename_i hc
      simp only [Option.map_eq_none_iff] at h
      rcases cbok_none h with h1 | ⟨m, h1, h2⟩
      · exact .inl h1
      · exact .inr ⟨m, List.mem_cons_of_mem _ h1, h2⟩
    · rename_i hc
      cases h1 : (cbox l c).2.2
      · right
        refine ⟨_, List.mem_cons_self .., ?_⟩
        cases h2 : boxOk (cbox l c).1
        · rfl
        · exact (hc ⟨h1, h2⟩).elim
      · left; exact crep_bad (cbox_bad l) d _ h1
theorem storeOk_not {s : Store} (h : (5 < s.boxes.length ∨ 20 < s.gone.length) ∨ ∃ b ∈ s.boxes, boxOk b = false) : storeOk s = false := by
  cases hb : storeOk s
  · rfl
  · obtain ⟨h1, h2, h3, h4, h5, h6, _⟩ := storeOk_vars hb
    rcases h with (h | h) | ⟨m, hm, h⟩
    · omega
    · omega
    · rw [h6 m hm] at h; cases h
def sstore (u : List UInt8) (c : Cur) : Option (Store × Cur) :=
  let w := cvar u c
  let t := cvar u w.2
  let k := cvar u t.2
  (cbok u (Min.min k.1.toNat 6) k.2).map fun ms => (⟨w.1, t.1, ms.1, (cints u 20 ms.2).1⟩, (cints u 20 ms.2).2)
theorem sstore_key {u : List UInt8} {c : Cur} {r : Store × Cur} (hr : sstore u c = some r) : cstore u c = r ∨ (r.2.2 = true ∨ storeOk r.1 = false) ∧ (cstore u c).2.2 = true := by
  simp only [sstore, Option.map_eq_some_iff] at hr
  obtain ⟨ms, hms, rfl⟩ := hr
  obtain ⟨h1, h2, h3, h4, h5⟩ := cbok_some hms
  have hn := cvar_nn u (cvar u (cvar u c).2).2
  simp only [cstore, cmany]
  generalize cvar u (cvar u (cvar u c).2).2 = k at *
  by_cases hb : k.2.2 = true
  · right
    rw [if_pos (.inr hb)]
    have hms2 : ms.2.2 = true := by rw [← h1]; exact crep_bad (cbox_bad u) _ _ hb
    refine ⟨.inl ?_, ?_⟩
    · simp only [cints]; rw [cupto_bad _ _ (cvar_bad2 u _ hms2)]; exact cvar_bad2 u _ hms2
    · exact cnums_bad u _ _ (crep_bad (cbox_bad u) _ _ rfl)
  · by_cases ht : 5 < k.1
    · right
      rw [if_pos (.inl ht)]
      refine ⟨.inr (storeOk_not (.inl (.inl ?_))), cnums_bad u _ _ (crep_bad (cbox_bad u) _ _ rfl)⟩
      simp only [h4]; omega
    · rw [if_neg (by rw [not_or]; exact ⟨ht, hb⟩)]
      rw [show Min.min k.1.toNat 6 = k.1.toNat by omega] at h1
      rw [h1]
      rcases cints_nums u 20 ms.2 with ⟨q1, q2⟩ | q
      · right
        refine ⟨?_, q2⟩
        rcases q1 with q1 | q1
        · exact .inl q1
        · exact .inr (storeOk_not (.inl (.inr q1)))
      · left; rw [q]; rfl
theorem sstore_none {u : List UInt8} {c : Cur} (hs : sstore u c = none) : ¬ ((cstore u c).2.2 = false ∧ storeOk (cstore u c).1 = true) := by
  rintro ⟨h3, h4⟩
  simp only [sstore, Option.map_eq_none_iff] at hs
  have hk := cbok_none hs
  have hn := cvar_nn u (cvar u (cvar u c).2).2
  simp only [cstore, cmany] at h3 h4
  generalize cvar u (cvar u (cvar u c).2).2 = k at *
  by_cases hb : k.2.2 = true
  · rw [if_pos (.inr hb)] at h3
    rw [cnums_bad u _ _ (crep_bad (cbox_bad u) _ _ rfl)] at h3; cases h3
  · by_cases ht : 5 < k.1
    · rw [if_pos (.inl ht)] at h3
      rw [cnums_bad u _ _ (crep_bad (cbox_bad u) _ _ rfl)] at h3; cases h3
    · rw [if_neg (by rw [not_or]; exact ⟨ht, hb⟩)] at h3 h4
      rw [show Min.min k.1.toNat 6 = k.1.toNat by omega] at hk
      rcases hk with hk | ⟨m, hm, hk⟩
      · rw [cnums_bad u _ _ hk] at h3; cases h3
      · rw [storeOk_not (.inr ⟨m, hm, hk⟩)] at h4; cases h4
theorem cstore_spans (u : List UInt8) (c : Cur) : Spans u c (cstore u c).2 (storeT (cstore u c).1) := by
  have h1 := (((cvar_spans u c).trans (cvar_spans u _)).trans (cmany_spans u 5 (cvar u (cvar u c).2).2)).trans ((crep_spans (cbox_spans u) (cmany u 5 (cvar u (cvar u c).2).2).1.toNat (cmany u 5 (cvar u (cvar u c).2).2).2).trans (cnums_spans u 20 _))
  have hn := crep_len (cbox u) (cmany u 5 (cvar u (cvar u c).2).2).1.toNat (cmany u 5 (cvar u (cvar u c).2).2).2
  simp only [storeT, storeP, cstore, hn]
  simpa [varI] using h1
theorem cstore_bad (u : List UInt8) (c : Cur) (h : c.2 = true) : (cstore u c).2.2 = true := (cstore_spans u c).bad h
theorem varT_ne (n : Nat) : varT n ≠ [] := by
  unfold varT; simp
theorem unsealed_ok {l : List UInt8} (h : (unsealed l).2 = true) : sealed (unsealed l).1 = (l, true) := by
  unfold unsealed at h ⊢
  split at h
  · rename_i hc
    rw [if_pos hc]
    simp only [sealed]
    have h1 : (l.take (l.length - 4)).length = l.length - 4 := by simp
    rw [if_neg (by omega), ← hc.2.2, List.take_append_drop]
  · cases h
theorem sealed_inj {a b : List UInt8} {t : List UInt8} (h : sealed a = (t, true)) (k : sealed b = (t, true)) : a = b := by
  unfold sealed at h k
  split at h
  · cases h
  · split at k
    · cases k
    · simp only [Prod.mk.injEq, and_true] at h k
      rw [← k] at h
      have hl := congrArg List.length h
      simp only [List.length_append, four_len] at hl
      exact (List.append_inj h (by omega)).1
/-- the other side's answer -/
def readStoreS (l : List UInt8) : Store × Bool := match sstore (unsealed l).1 (0, !(unsealed l).2) with
  | none => (store0, false)
  | some r => if r.2.2 = false ∧ (storeText r.1).2 = true ∧ (storeText r.1).1 = l then (r.1, true) else (store0, false)
theorem readStore_s (l : List UInt8) : readStoreS l = readStore l := by
  unfold readStoreS readStore
  have hun := @unsealed_ok l
  generalize unsealed l = un at *
  obtain ⟨u, ok⟩ := un
  simp only at hun ⊢
  cases ok
  · simp only [Bool.not_false, Bool.false_eq_true, false_and, if_false]
    cases hs : sstore u (0, true) with
    | none => rfl
    | some r =>
      simp only
      rw [if_neg]
      rintro ⟨h1, h2, h3⟩
      rcases sstore_key hs with q | ⟨q1, q2⟩
      · have := cstore_bad u (0, true) rfl
        rw [q, h1] at this; cases this
      · rcases q1 with q1 | q1
        · rw [h1] at q1; cases q1
        · simp only [storeText, q1] at h2; cases h2
  · have hun := hun rfl
    simp only [Bool.not_true, true_and]
    cases hs : sstore u (0, false) with
    | none =>
      simp only
      rw [if_neg fun k => sstore_none hs ⟨k.1, k.2.2⟩]
    | some r =>
      simp only
      have hsp := cstore_spans u (0, false)
      rcases sstore_key hs with q | ⟨q1, q2⟩
      · rw [q] at hsp ⊢
        have hiff : (r.2.2 = false ∧ (storeText r.1).2 = true ∧ (storeText r.1).1 = l) ↔ (r.2.2 = false ∧ r.2.1 = (u.length : Int) ∧ storeOk r.1 = true) := by
          constructor
          · rintro ⟨h1, h2, h3⟩
            have hok : storeOk r.1 = true := by
              cases hk : storeOk r.1
              · simp only [storeText, hk] at h2; cases h2
              · rfl
            simp only [storeText, hok, if_true] at h2 h3
            have heq : storeT r.1 = u := sealed_inj (Prod.ext h3 h2) hun
            refine ⟨h1, ?_, hok⟩
            obtain ⟨_, hle, hx⟩ := hsp h1
            simp only at hle hx
            rcases hx with ⟨hx, _⟩ | ⟨_, hx2, hx3⟩
            · exfalso
              have : varT r.1.boxes.length = [] := by
                simp only [storeT, storeP, List.append_eq_nil_iff] at hx
                exact hx.1.2.2
              exact varT_ne _ this
            · rw [heq] at hx3
              have := congrArg List.length hx3
              simp at this
              omega
          · rintro ⟨h1, h2, h3⟩
            obtain ⟨_, hle, hx⟩ := hsp h1
            have heq : storeT r.1 = u := by
              simp only at hle hx
              rcases hx with ⟨hx, hx2⟩ | ⟨_, hx2, hx3⟩
              · exfalso
                have : varT r.1.boxes.length = [] := by
                  simp only [storeT, storeP, List.append_eq_nil_iff] at hx
                  exact hx.1.2.2
                exact varT_ne _ this
              · rw [← hx3, h2]; simp
            refine ⟨h1, ?_, ?_⟩ <;> simp [storeText, h3, heq, hun]
        by_cases hc : r.2.2 = false ∧ (storeText r.1).2 = true ∧ (storeText r.1).1 = l
        · rw [if_pos hc, if_pos (hiff.1 hc)]
        · rw [if_neg hc, if_neg fun k => hc (hiff.2 k)]
      · rw [if_neg, if_neg]
        · rintro ⟨h1, _⟩; rw [q2] at h1; cases h1
        · rintro ⟨h1, h2, h3⟩
          rcases q1 with q1 | q1
          · rw [h1] at q1; cases q1
          · simp only [storeText, q1] at h2; cases h2
end Mx

/-
  What is read of stores: the other side's walk.
-/
namespace Mx
open Go
variable {M : Nat → Option Body}
def ssO (w t : Int) (i : Nat) (acc : List Box) (u : List UInt8) (c : Cur) (x : Four) : List (Nat × Ob) := [(2, ⟨x.a, 4, true, true, [szero]⟩), (7, ⟨x.b, 4, true, true, [[I w, I t, if i = 0 then .nils 7 else .row 66 x.c 0 i, .nils 1]]⟩), (24, curO 2000208 u c)] ++ if i = 0 then [] else [(66, ⟨x.c, 7, true, false, acc.map encBox⟩)]
def ssS (l u : List UInt8) (w t : Int) (n i : Nat) (acc : List Box) (c : Cur) (x : Four) : St := { t := [(0, .c (S l)), (2, .c (.ptr 2 x.a 0 0)), (4, .c (S u)), (6, .c (.ptr 24 2000208 0 0)), (7, .c (.ptr 7 x.b 0 0)), (8, .c (I n)), (9, .c (I i))], o := ssO w t i acc u c x, n := x.d }
def ssE (l u : List UInt8) (w t : Int) (n i : Nat) (acc : List Box) (c : Cur) (x : Four) : St := { t := [(0, .c (S l)), (2, .c (.ptr 2 x.a 0 0)), (4, .c (S u)), (6, .c (.ptr 24 2000208 0 0)), (7, .c (.ptr 7 x.b 0 0)), (8, .c (I n)), (9, .c (I i)), (46, .c (.bool false))], o := ssO w t i acc u c x, n := x.d }
def ssF (l u : List UInt8) (w t : Int) (n : Nat) (q : Option (List Box × Cur)) (m : Four × List (Nat × Ob)) : Out × St := match q with
  | none => (.ret, { t := [(2, .c (.ptr 2 m.1.a 0 0)), (3, .c (.bool false))], o := (2, ⟨m.1.a, 4, true, true, [szero]⟩) :: m.2, n := m.1.d })
  | some r => (.exit 0, ssE l u w t n r.1.length r.1 r.2 m.1)
theorem ssF_ne (l u : List UInt8) (w t : Int) (n : Nat) (q : Option (List Box × Cur)) (m : Four × List (Nat × Ob)) : (ssF l u w t n q m).1 ≠ .normal := by cases q <;> simp [ssF]
theorem spec_ReadStore.loop (k5 : spec_ReadBox.k M) (l u : List UInt8) (hl : u.length ≤ 1048576) (w t : Int) (n D : Nat) (hD : Min.min n 6 = D) (c : Cur) (hc : 0 < D → c.2 = false) :
    ∃ g : Four → Four × List (Nat × Ob), ∀ x, loopN (exC (run M) (D + 1) spec_ReadStore.l0) (D + 1) (ssS l u w t n 0 [] c x) = some (ssF l u w t n (cbok u D c) (g x)) := by
  have := loop_all (f := exC (run M) (D + 1) spec_ReadStore.l0) (fun s : Nat × List Box × Cur => ssS l u w t n s.1 s.2.1 s.2.2) (fun s => s.1 ≤ D ∧ s.2.1.length = s.1 ∧ (s.1 < D → s.2.2.2 = false)) (fun s => D - s.1)
    (fun s => (cbok u (D - s.1) s.2.2).map fun r => (s.2.1 ++ r.1, r.2)) (ssF l u w t n) ?_ (D + 1) (0, [], c) ⟨Nat.zero_le _, rfl, hc⟩ (by simp)
  · simpa using this
  rintro ⟨i, acc, c⟩ x ⟨hi, ha, hc⟩
  simp only at hi ha hc
  by_cases hlt : i < D
  · have hc := hc hlt
    obtain ⟨ca, cb⟩ := c
    simp only at hc
    subst hc
    have h2 := spec_ReadBox.says k5 u hl ca
    have h3 : i < n := by omega
    have h4 : i ≤ 5 := by omega
    have hd : D - i = (D - (i + 1)) + 1 := by omega
    obtain ⟨xa, xb, xc, xd⟩ := x
    unfold readBox at h2
    by_cases hk : (cbox u (ca, false)).2.2 = false ∧ boxOk (cbox u (ca, false)).1 = true
    · left
      rw [if_pos hk] at h2
      refine ⟨(i + 1, acc ++ [(cbox u (ca, false)).1], (cbox u (ca, false)).2), ?_⟩
      have hcc : (cbox u (ca, false)).2 = ((cbox u (ca, false)).2.1, false) := Prod.ext rfl hk.1
      have hres : (cbok u (D - (i + 1)) (cbox u (ca, false)).2).map (fun r => ((acc ++ [(cbox u (ca, false)).1]) ++ r.1, r.2)) = (cbok u (D - i) (ca, false)).map fun r => (acc ++ r.1, r.2) := by
        rw [hd, cbok, if_pos hk, Option.map_map]
        congr 1
        funext r; simp
      simp only [hres, and_true]
      have hrun : ∃ y, exC (run M) (D + 1) spec_ReadStore.l0 (ssS l u w t n i acc (ca, false) ⟨xa, xb, xc, xd⟩) = some (.normal, ssS l u w t n (i + 1) (acc ++ [(cbox u (ca, false)).1]) (cbox u (ca, false)).2 y) := by
        rw [hcc]
        generalize cbox u (ca, false) = r at *
        simp only [Four.ex]
        cases i with
        | zero =>
          have : acc = [] := List.eq_nil_of_length_eq_zero ha
          subst this
          simp (maxSteps := 1000000) [spec_ReadStore.l0, List.range_succ, bs_get, setAt, ssS, ssO, h2, h3, h4, wrap_one, encBoxO, encBox, ints]
        | succ i =>
          have e5 : IntKind.i64.wrap ((i : Int) + 1 + 1) = (i : Int) + 1 + 1 := wrap_i64 (by omega) (by omega)
          have e6 : i + 1 + 1 ≤ 4294967296 := by omega
          have h3' : (i : Int) + 1 < n := by omega
          have h4' : (i : Int) + 1 ≤ 5 := by omega
          simp (maxSteps := 1000000) [spec_ReadStore.l0, List.range_succ, bs_get, setAt, ssS, ssO, h3', h4', h2, e5, e6, ha, encBoxO, encBox, ints, List.take_of_length_le]
      obtain ⟨y, hy⟩ := hrun
      exact ⟨y, hy, ⟨hlt, by simp [ha], fun _ => hk.1⟩, by omega⟩
    · right
      rw [if_neg hk] at h2
      rw [hd, cbok, if_neg hk]
      have hrun : ∃ z, exC (run M) (D + 1) spec_ReadStore.l0 (ssS l u w t n i acc (ca, false) ⟨xa, xb, xc, xd⟩) = some (ssF l u w t n none z) := by
        simp only [Prod.exists, Four.ex]
        cases i with
        | zero =>
          have : acc = [] := List.eq_nil_of_length_eq_zero ha
          subst this
          simp (maxSteps := 1000000) [spec_ReadStore.l0, List.range_succ, bs_get, setAt, ssS, ssO, ssF, h2, h3, h4, box0, irow]
        | succ i =>
          have h3' : (i : Int) + 1 < n := by omega
          have h4' : (i : Int) + 1 ≤ 5 := by omega
          simp (maxSteps := 1000000) [spec_ReadStore.l0, List.range_succ, bs_get, setAt, ssS, ssO, ssF, h3', h4', h2, ha, box0, irow]
      obtain ⟨z, hz⟩ := hrun
      exact ⟨z, hz, ssF_ne _ _ _ _ _ _ _⟩
  · have : i = D := by omega
    subst this
    right
    rw [Nat.sub_self]
    simp only [cbok, Option.map_some, List.append_nil]
    have hrun : ∃ z, exC (run M) (i + 1) spec_ReadStore.l0 (ssS l u w t n i acc c x) = some (ssF l u w t n (some (acc, c)) (z, [])) := by
      obtain ⟨xa, xb, xc, xd⟩ := x
      simp only [Four.ex]
      have hx : i = n ∨ i = 6 := by omega
      rcases hx with rfl | rfl
      · by_cases hz : i = 0
        · subst hz
          simp (maxSteps := 1000000) [spec_ReadStore.l0, List.range_succ, bs_get, setAt, ssS, ssE, ssF, ssO, ha]
        · simp (maxSteps := 1000000) [spec_ReadStore.l0, List.range_succ, bs_get, setAt, ssS, ssE, ssF, ssO, ha, hz]
      · by_cases h2 : (6 : Int) < n
        · simp (maxSteps := 1000000) [spec_ReadStore.l0, List.range_succ, bs_get, setAt, ssS, ssE, ssF, ssO, ha, h2]
        · simp (maxSteps := 1000000) [spec_ReadStore.l0, List.range_succ, bs_get, setAt, ssS, ssE, ssF, ssO, ha, h2]
    obtain ⟨z, hz⟩ := hrun
    exact ⟨(z, []), hz, ssF_ne _ _ _ _ _ _ _⟩
set_option maxHeartbeats 1000000 in
theorem spec_ReadStore.says (h : spec_ReadStore.k M) (l : List UInt8) (hl : l.length ≤ 1048576) :
    run M 75 [.c (S l)] [] = some (.tup [.a (encStoreO (readStore l).1), .c (.bool (readStore l).2)], []) := by
  obtain ⟨h0, k5, k1, k2, k4, k3⟩ := h
  rw [← readStore_s]
  have h1 := spec_Unsealed.says k3 l (by omega)
  have hu : (unsealed l).1.length ≤ 1048576 := by unfold unsealed; split <;> simp; omega
  unfold readStoreS
  generalize unsealed l = un at *
  obtain ⟨u, ok⟩ := un
  simp only at hu ⊢
  have hu2 : u.length ≤ 4611686018427387904 := by omega
  have h2 := spec_l05Var.at k2 u hu2 0 (!ok)
  have h3 := spec_l05Var.says k2 u hu2 (cvar u (0, !ok)).2
  have h4 := spec_l05Var.says k2 u hu2 (cvar u (cvar u (0, !ok)).2).2
  have e0 : sstore u (0, !ok) = (cbok u (Min.min (cvar u (cvar u (cvar u (0, !ok)).2).2).1.toNat 6) (cvar u (cvar u (cvar u (0, !ok)).2).2).2).map fun ms => (⟨(cvar u (0, !ok)).1, (cvar u (cvar u (0, !ok)).2).1, ms.1, (cints u 20 ms.2).1⟩, (cints u 20 ms.2).2) := rfl
  rw [e0]
  clear e0
  generalize cvar u (0, !ok) = q1 at *
  generalize cvar u q1.2 = q2 at *
  have hn := cvar_nn u q2.2
  have hz : (cvar u q2.2).2.2 = true → (cvar u q2.2).1 = 0 := by
    unfold cvar; split
    · intro _; rfl
    · intro h; cases h
  generalize cvar u q2.2 = q3 at *
  obtain ⟨n, c1⟩ := q3
  simp only at hn hz ⊢
  obtain ⟨n, rfl⟩ := Int.eq_ofNat_of_zero_le hn.1
  simp only [Int.toNat_natCast]
  obtain ⟨D, hD⟩ : ∃ D, Min.min n 6 = D := ⟨_, rfl⟩
  refine run_code (b := spec_ReadStore.m) h0 ⟨D + 1, ?_⟩
  obtain ⟨g, hr⟩ := spec_ReadStore.loop k5 l u hu q1.1 q2.1 n D hD c1 (fun hd => by
    cases hc : c1.2
    · rfl
    · have := hz hc; omega)
  rw [hD]
  replace hr := fun a b d => hr ⟨a, b, 0, d⟩
  cases hq : cbok u D c1 with
  | none =>
    simp only [hq] at hr
    simp [ssS, ssO, ssF] at hr
    simp only [Option.map_none]
    simp (maxSteps := 1000000) [exB, spec_ReadStore.m, spec_ReadStore.b, List.range_succ, bs_get, setAt, h1, h2, h3, h4, hr, store0, irow]
  | some r =>
    simp only [hq] at hr
    simp only [Option.map_some]
    obtain ⟨m1, m2, m3, m4, m5⟩ := cbok_some hq
    have h7 := spec_l10Ints.says k4 u hu2 20 (by omega) r.2
    simp only [Int.cast_ofNat_Int] at h7
    have hgl : (cints u 20 r.2).1.length ≤ 21 := by
      unfold cints
      exact Nat.le_trans (cupto_le _ _) (by omega)
    have h8 := spec_StoreText.says k1 ⟨q1.1, q2.1, r.1, (cints u 20 r.2).1⟩ (storeIn_rd (u := u) hu (by simp only [m4]; omega) (by simp only; omega) m5)
    simp only [encStore, boxes, ints, irow] at h8
    generalize cints u 20 r.2 = w at *
    generalize storeText _ = st at *
    obtain ⟨s1, s2⟩ := st
    by_cases hz : D = 0
    · have hr0 : r.1 = [] := List.eq_nil_of_length_eq_zero (by omega)
      subst hz
      simp [ssS, ssE, ssO, ssF, hr0] at hr
      simp only [hr0, List.map_nil] at h8
      cases c1 : w.2.2
      · cases s2
        · simp (maxSteps := 1000000) [exB, spec_ReadStore.m, spec_ReadStore.b, List.range_succ, bs_get, setAt, h1, h2, h3, h4, h7, h8, hr, hr0, c1, store0, irow, List.take_of_length_le]
        · by_cases c3 : s1 = l <;> simp (maxSteps := 1000000) [exB, spec_ReadStore.m, spec_ReadStore.b, List.range_succ, bs_get, setAt, h1, h2, h3, h4, h7, h8, hr, hr0, c1, c3, store0, irow, List.take_of_length_le]
      · simp (maxSteps := 1000000) [exB, spec_ReadStore.m, spec_ReadStore.b, List.range_succ, bs_get, setAt, h1, h2, h3, h4, h7, h8, hr, hr0, c1, store0, irow, List.take_of_length_le]
    · have hz' : ¬ r.1.length = 0 := by omega
      have hz'' : r.1 ≠ [] := fun e => hz' (by rw [e]; rfl)
      simp [ssS, ssE, ssO, ssF, hz''] at hr
      cases c1 : w.2.2
      · cases s2
        · simp (maxSteps := 1000000) [exB, spec_ReadStore.m, spec_ReadStore.b, List.range_succ, bs_get, setAt, h1, h2, h3, h4, h7, h8, hr, hz'', c1, store0, irow, List.take_of_length_le]
        · by_cases c3 : s1 = l <;> simp (maxSteps := 1000000) [exB, spec_ReadStore.m, spec_ReadStore.b, List.range_succ, bs_get, setAt, h1, h2, h3, h4, h7, h8, hr, hz'', c1, c3, store0, irow, List.take_of_length_le]
      · simp (maxSteps := 1000000) [exB, spec_ReadStore.m, spec_ReadStore.b, List.range_succ, bs_get, setAt, h1, h2, h3, h4, h7, h8, hr, hz'', c1, store0, irow, List.take_of_length_le]
end Mx

/-
  How long texts of right things are; what is read of a store's text is the text of it.
-/
namespace Mx
open Go
theorem varI_len3 {n : Int} (h : n < 16384) : (varI n).length ≤ 3 := by
  have := varP_len 2 n.toNat (by omega)
  simp [varI, varT]; omega
theorem varI_len4 {n : Int} (h : n < 2097152) : (varI n).length ≤ 4 := by
  have := varP_len 3 n.toNat (by omega)
  simp [varI, varT]; omega
theorem varT_len3 {n : Nat} (h : n < 16384) : (varT n).length ≤ 3 := by
  have := varI_len3 (n := n) (by omega)
  simpa [varI] using this
theorem flagsOk_val {l : List Reg} (h : flagsOk l = true) : ∀ r ∈ l, r.val ≤ 1 ∧ r.time ≤ 100000 ∧ r.who ≤ 2 ∧ regOk r = true := by
  intro r hr
  simp only [flagsOk, Bool.and_eq_true, decide_eq_true_eq, Option.isNone_iff_eq_none, firstN_isNone] at h
  obtain ⟨i, hi, e⟩ := List.getElem_of_mem hr
  have := h.1 i hi
  rw [badFlag_at hi, e] at this
  simp at this
  have h2 := this.1
  simp only [regOk, stampOk, Bool.and_eq_true, inR_iff] at h2
  exact ⟨by omega, by omega, by omega, this.1⟩
theorem mailT_short {m : Mail} (h : mailOk m = true) : (mailT m).length ≤ 100 := by
  have h0 := h
  simp only [mailOk, Bool.and_eq_true, inR_iff, decide_eq_true_eq] at h
  obtain ⟨⟨⟨h1, h2⟩, h3⟩, h4⟩ := h
  have hf := (flagsOk_regs h3).1
  have := varI_len3 (n := m.gid) (by omega); have := varI_len3 (n := m.uid) (by omega)
  have h6 := texts_len regT m.flags 10 fun r hr => by
    have := flagsOk_val h3 r hr
    have := varI_len3 (n := r.val) (by omega); have := varI_len4 (n := r.time) (by omega); have := varI_len3 (n := r.who) (by omega)
    simp [regT, texts]; omega
  have h7 := varT_len3 (n := m.text.length) (by omega)
  rw [hf] at h6
  simp only [mailT, shortT, List.length_append]
  have : (texts varI [m.gid, m.uid]).length ≤ 6 := by simp [texts]; omega
  omega
theorem boxT_short {b : Box} (h : boxOk b = true) : (boxT b).length ≤ 1200 := by
  obtain ⟨v1, v2, v3, v4, v5, v6, v7, v8, v9⟩ := boxOk_vars h
  simp only [boxOk, Bool.and_eq_true, decide_eq_true_eq, inR_iff] at h
  obtain ⟨⟨⟨⟨⟨⟨h1, h2⟩, h3⟩, h4⟩, h5⟩, h6⟩, h7⟩ := h
  simp only [stampOk, Bool.and_eq_true, inR_iff] at h3
  have := varI_len3 (n := b.gid) (by omega); have := varI_len4 (n := b.time) (by omega); have := varI_len3 (n := b.who) (by omega); have := varI_len3 (n := b.next) (by omega)
  have := varT_len3 (n := b.name.length) (by omega); have := varT_len3 (n := b.mails.length) (by omega); have := varT_len3 (n := b.gone.length) (by omega)
  have hg := gidsOk_vars h6
  have := texts_len varI b.gone 3 fun n hn => varI_len3 (by have := hg.2 n hn; omega)
  have := texts_len mailT b.mails 100 fun m hm => mailT_short (v9 m hm)
  simp only [boxT, boxP, List.length_append]; omega
theorem storeT_short {s : Store} (h : storeOk s = true) : (storeT s).length ≤ 7000 := by
  obtain ⟨v1, v2, v3, v4, v5, v6, v7, v8⟩ := storeOk_vars h
  simp only [storeOk, Bool.and_eq_true, decide_eq_true_eq, inR_iff] at h
  obtain ⟨⟨⟨⟨h1, h2⟩, h3⟩, h4⟩, h5⟩ := h
  have := varI_len3 (n := s.who) (by omega); have := varI_len4 (n := s.time) (by omega)
  have := varT_len3 (n := s.boxes.length) (by omega); have := varT_len3 (n := s.gone.length) (by omega)
  have hg := gidsOk_vars h4
  have := texts_len varI s.gone 3 fun n hn => varI_len3 (by have := hg.2 n hn; omega)
  have := texts_len boxT s.boxes 1200 fun m hm => boxT_short (v6 m hm)
  simp only [storeT, storeP, List.length_append]; omega
/-- what is read of a text is right, and has that text -/
theorem readStore_ok {l : List UInt8} (h : (readStore l).2 = true) : storeOk (readStore l).1 = true ∧ sealed (storeT (readStore l).1) = (l, true) := by
  rw [← readStore_s] at h ⊢
  unfold readStoreS at h ⊢
  cases hs : sstore (unsealed l).1 (0, !(unsealed l).2) with
  | none => rw [hs] at h; cases h
  | some r =>
    rw [hs] at h
    simp only at h ⊢
    split at h
    · rename_i hc
      rw [if_pos hc]
      obtain ⟨h1, h2, h3⟩ := hc
      cases hk : storeOk r.1
      · simp only [storeText, hk] at h2; cases h2
      · simp only [storeText, hk, if_true] at h2 h3
        exact ⟨rfl, Prod.ext h3 h2⟩
    · cases h
theorem readStore_short {l : List UInt8} (h : (readStore l).2 = true) : l.length ≤ 7004 := by
  obtain ⟨h1, h2⟩ := readStore_ok h
  have := storeT_short h1
  unfold sealed at h2
  split at h2
  · cases h2
  · simp only [Prod.mk.injEq, and_true] at h2
    rw [← h2]; simp [four_len]; omega
end Mx

/-
  Small codes: impl.StoreText, laws.FnExactStoreText, spec.SameStore, impl.SameStore, laws.FnExactSameStore.
-/
namespace Mx
open Go
def impl_StoreText.l0 : C := .seq (.reg [⟨some 23, .bin .lss (.t 22) (.t 21), none⟩] [1, 4, 20, 21, 22, 23] [1])
  (.seq (.cond (.t 23) (.skip) (.exit 0))
  (.seq (.block 1 (.seq (.reg [⟨some 24, .iaddr 7 (.t 20) (.t 22), none⟩,
    ⟨some 25, .load true 7 (.t 24), none⟩,
    ⟨some 6, .alloc [.int .i64 0, .str ⟨#[]⟩, .int .i64 0, .int .i64 0, .int .i64 0, .nils 4, .nils 1], none⟩,
    ⟨none, .store 7 (.t 6) (.t 25), none⟩] [1, 4, 6, 20, 21, 22] [1, 6])
  (.reg [⟨some 26, .mv (.t 4), none⟩,
    ⟨some 27, .load true 7 (.t 6), none⟩,
    ⟨some 28, .call 123 [.t 27] [] [], none⟩,
    ⟨some 29, .bin .add (.t 26) (.t 28), none⟩,
    ⟨some 4, .mv (.t 29), none⟩] [1, 4, 20, 21, 22] [1])))
  (.reg [⟨some 30, .bin .add (.t 22) (.k (.int .i64 1)), none⟩,
    ⟨some 22, .mv (.t 30), none⟩] [1, 4, 20, 21, 22] [1])))
def impl_StoreText.b : C := .seq (.reg [⟨some 1, .box (.t 0), none⟩,
    ⟨some 2, .mv (.k (.str ⟨#[]⟩)), none⟩,
    ⟨some 3, .mv (.k (.bool false)), none⟩] [1] [1])
  (.seq (.seq (.reg [⟨some 7, .load true 4 (.t 1), none⟩,
    ⟨some 8, .call 150 [.t 7] [] [], none⟩,
    ⟨some 9, .not (.t 8), none⟩] [1, 9] [1])
  (.cond (.t 9) (.seq (.reg [⟨some 2, .mv (.k (.str ⟨#[]⟩)), none⟩,
    ⟨some 3, .mv (.k (.bool false)), none⟩] [2, 3] [])
  (.ret)) (.skip)))
  (.seq (.reg [⟨some 10, .faddr 0 (.t 1), none⟩,
    ⟨some 11, .load false 1 (.t 10), none⟩,
    ⟨some 12, .faddr 1 (.t 1), none⟩,
    ⟨some 13, .load false 1 (.t 12), none⟩,
    ⟨some 14, .faddr 2 (.t 1), none⟩,
    ⟨some 15, .load false 1 (.t 14), none⟩,
    ⟨some 16, .len (.t 15), none⟩,
    ⟨some 17, .bslice 1 3 [.int .i64 0] [(0, .t 11), (1, .t 13), (2, .t 16)], none⟩,
    ⟨some 18, .call 151 [.t 17] [] [], none⟩,
    ⟨some 4, .mv (.t 18), none⟩] [1, 4] [1])
  (.seq (.seq (.reg [⟨some 19, .faddr 2 (.t 1), none⟩,
    ⟨some 20, .load false 1 (.t 19), none⟩,
    ⟨some 21, .len (.t 20), none⟩,
    ⟨some 22, .mv (.k (.int .i64 0)), none⟩] [1, 4, 20, 21, 22] [1])
  (.block 0 (.loop impl_StoreText.l0)))
  (.seq (.regd [⟨some 31, .mv (.t 4), none⟩,
    ⟨some 32, .faddr 3 (.t 1), none⟩,
    ⟨some 33, .load false 1 (.t 32), none⟩,
    ⟨some 34, .len (.t 33), none⟩,
    ⟨some 35, .bslice 1 1 [.int .i64 0] [(0, .t 34)], none⟩,
    ⟨some 36, .call 151 [.t 35] [] [], none⟩,
    ⟨some 37, .bin .add (.t 31) (.t 36), none⟩,
    ⟨some 38, .faddr 3 (.t 1), none⟩,
    ⟨some 39, .load false 1 (.t 38), none⟩,
    ⟨some 40, .call 151 [.t 39] [] [], none⟩,
    ⟨some 41, .bin .add (.t 37) (.t 40), none⟩,
    ⟨some 42, .call 103 [.t 41] [] [], none⟩,
    ⟨some 43, .ext 0 (.t 42), none⟩,
    ⟨some 44, .ext 1 (.t 42), none⟩,
    ⟨some 2, .mv (.t 43), none⟩,
    ⟨some 3, .mv (.t 44), none⟩] [[], [], [1], [1, 2], [1, 2, 3], [1, 2, 3, 4], List.range 6, [], [7], [1, 2, 3, 4, 5, 7, 8], List.range 10, List.range 11, List.range 12, List.range 12, List.range 14, List.range 15] [2, 3] [])
  (.ret)))))
def impl_StoreText.m : Fn := { np := 1, body := impl_StoreText.b, res := [.tmp 2, .tmp 3] }
def impl_StoreText.k (M : Nat → Option Body) : Prop := M 61 = some (.code impl_StoreText.m) ∧ impl_Sealed.k M ∧ impl_boxText.k M ∧ impl_StoreOk.k M ∧ impl_vars.k M
def laws_FnExactStoreText.b : C := .seq (.reg [⟨some 1, .box (.t 0), none⟩,
    ⟨some 2, .mv (.k (.bool false)), none⟩] [1] [1])
  (.seq (.reg [⟨some 3, .mv (.k (.int .i64 1048576)), none⟩] [1, 3] [1])
  (.seq (.reg [⟨some 9, .load true 4 (.t 1), none⟩,
    ⟨some 10, .mv (.t 3), none⟩,
    ⟨some 11, .call 29 [.t 9, .t 10] [] [], none⟩,
    ⟨some 3, .mv (.t 11), none⟩] [1, 3] [1])
  (.seq (.seq (.reg [⟨some 12, .mv (.t 3), none⟩,
    ⟨some 13, .bin .lss (.t 12) (.k (.int .i64 0)), none⟩] [1, 13] [1])
  (.cond (.t 13) (.seq (.reg [⟨some 2, .mv (.k (.bool true)), none⟩] [2] [])
  (.ret)) (.skip)))
  (.seq (.reg [⟨some 15, .load true 4 (.t 1), none⟩,
    ⟨some 16, .call 30 [.t 15] [] [], none⟩,
    ⟨some 17, .call 60 [.t 16] [] [], none⟩,
    ⟨some 14, .mv (.t 17), none⟩,
    ⟨some 18, .ext 0 (.t 14), none⟩,
    ⟨some 19, .ext 1 (.t 14), none⟩,
    ⟨some 4, .mv (.t 18), none⟩,
    ⟨some 5, .mv (.t 19), none⟩] [1, 4, 5] [1])
  (.seq (.reg [⟨some 20, .load true 4 (.t 1), none⟩,
    ⟨some 21, .call 30 [.t 20] [] [], none⟩,
    ⟨some 6, .alloc [.int .i64 0, .int .i64 0, .nils 7, .nils 1], none⟩,
    ⟨none, .store 4 (.t 6) (.t 21), none⟩] [1, 4, 5, 6] [1, 6])
  (.seq (.reg [⟨some 23, .load true 4 (.t 6), none⟩,
    ⟨some 24, .call 61 [.t 23] [] [], none⟩,
    ⟨some 22, .mv (.t 24), none⟩,
    ⟨some 25, .ext 0 (.t 22), none⟩,
    ⟨some 26, .ext 1 (.t 22), none⟩,
    ⟨some 7, .mv (.t 25), none⟩,
    ⟨some 8, .mv (.t 26), none⟩] [1, 4, 5, 6, 7, 8] [1, 6])
  (.seq (.seq (.reg [⟨some 27, .mv (.t 7), none⟩,
    ⟨some 28, .mv (.t 4), none⟩,
    ⟨some 29, .bin .neq (.t 27) (.t 28), none⟩,
    ⟨some 30, .mv (.t 29), none⟩,
    ⟨some 31, .mv (.t 8), some (30, false)⟩,
    ⟨some 32, .mv (.t 5), some (30, false)⟩,
    ⟨some 33, .beq true (.t 31) (.t 32), some (30, false)⟩,
    ⟨some 34, .pick (.t 30) (.k (.bool true)) (.t 33), none⟩] [1, 6, 34] [1, 6])
  (.cond (.t 34) (.seq (.reg [⟨some 2, .mv (.k (.bool false)), none⟩] [2] [])
  (.ret)) (.skip)))
  (.seq (.seq (.regd [⟨some 35, .load true 4 (.t 6), none⟩,
    ⟨some 36, .load true 4 (.t 1), none⟩,
    ⟨some 37, .call 30 [.t 36] [] [], none⟩,
    ⟨some 38, .call 33 [.t 35, .t 37] [] [], none⟩,
    ⟨some 39, .not (.t 38), none⟩] [[], [], [1], [0, 1, 2], List.range 4] [39] [])
  (.cond (.t 39) (.seq (.reg [⟨some 2, .mv (.k (.bool false)), none⟩] [2] [])
  (.ret)) (.skip)))
  (.seq (.reg [⟨some 2, .mv (.k (.bool true)), none⟩] [2] [])
  (.ret))))))))))
def laws_FnExactStoreText.m : Fn := { np := 1, body := laws_FnExactStoreText.b, res := [.tmp 2] }
def laws_FnExactStoreText.k (M : Nat → Option Body) : Prop := M 388 = some (.code laws_FnExactStoreText.m) ∧ laws_szStore.k M ∧ laws_toStore.k M ∧ laws_eqStore.k M ∧ spec_StoreText.k M ∧ impl_StoreText.k M
def spec_SameStore.b : C := .seq (.reg [⟨some 2, .box (.t 0), none⟩,
    ⟨some 3, .box (.t 1), none⟩,
    ⟨some 4, .mv (.k (.bool false)), none⟩] [2, 3] [2, 3])
  (.seq (.reg [⟨some 10, .load true 4 (.t 2), none⟩,
    ⟨some 11, .call 60 [.t 10] [] [], none⟩,
    ⟨some 9, .mv (.t 11), none⟩,
    ⟨some 12, .ext 0 (.t 9), none⟩,
    ⟨some 13, .ext 1 (.t 9), none⟩,
    ⟨some 5, .mv (.t 12), none⟩,
    ⟨some 6, .mv (.t 13), none⟩] [3, 5, 6] [3])
  (.seq (.reg [⟨some 15, .load true 4 (.t 3), none⟩,
    ⟨some 16, .call 60 [.t 15] [] [], none⟩,
    ⟨some 14, .mv (.t 16), none⟩,
    ⟨some 17, .ext 0 (.t 14), none⟩,
    ⟨some 18, .ext 1 (.t 14), none⟩,
    ⟨some 7, .mv (.t 17), none⟩,
    ⟨some 8, .mv (.t 18), none⟩] [5, 6, 7, 8] [])
  (.seq (.reg [⟨some 19, .mv (.t 6), none⟩,
    ⟨some 20, .mv (.t 8), none⟩,
    ⟨some 21, .beq false (.t 19) (.t 20), none⟩,
    ⟨some 22, .mv (.t 21), none⟩,
    ⟨some 23, .mv (.t 5), some (22, true)⟩,
    ⟨some 24, .mv (.t 7), some (22, true)⟩,
    ⟨some 25, .bin .eql (.t 23) (.t 24), some (22, true)⟩,
    ⟨some 26, .pick (.t 22) (.t 25) (.k (.bool false)), none⟩,
    ⟨some 4, .mv (.t 26), none⟩] [4] [])
  (.ret))))
def spec_SameStore.m : Fn := { np := 2, body := spec_SameStore.b, res := [.tmp 4] }
def spec_SameStore.k (M : Nat → Option Body) : Prop := M 62 = some (.code spec_SameStore.m) ∧ spec_StoreText.k M
def impl_SameStore.b : C := .seq (.reg [⟨some 2, .box (.t 0), none⟩,
    ⟨some 3, .box (.t 1), none⟩,
    ⟨some 4, .mv (.k (.bool false)), none⟩] [2, 3] [2, 3])
  (.seq (.reg [⟨some 10, .load true 4 (.t 2), none⟩,
    ⟨some 11, .call 61 [.t 10] [] [], none⟩,
    ⟨some 9, .mv (.t 11), none⟩,
    ⟨some 12, .ext 0 (.t 9), none⟩,
    ⟨some 13, .ext 1 (.t 9), none⟩,
    ⟨some 5, .mv (.t 12), none⟩,
    ⟨some 6, .mv (.t 13), none⟩] [3, 5] [3])
  (.seq (.reg [⟨some 15, .load true 4 (.t 3), none⟩,
    ⟨some 16, .call 61 [.t 15] [] [], none⟩,
    ⟨some 14, .mv (.t 16), none⟩,
    ⟨some 17, .ext 0 (.t 14), none⟩,
    ⟨some 18, .ext 1 (.t 14), none⟩,
    ⟨some 7, .mv (.t 17), none⟩,
    ⟨some 8, .mv (.t 18), none⟩] [5, 7] [])
  (.seq (.reg [⟨some 19, .mv (.t 5), none⟩,
    ⟨some 20, .mv (.t 7), none⟩,
    ⟨some 21, .bin .eql (.t 19) (.t 20), none⟩,
    ⟨some 4, .mv (.t 21), none⟩] [4] [])
  (.ret))))
def impl_SameStore.m : Fn := { np := 2, body := impl_SameStore.b, res := [.tmp 4] }
def impl_SameStore.k (M : Nat → Option Body) : Prop := M 63 = some (.code impl_SameStore.m) ∧ impl_StoreText.k M
def laws_FnExactSameStore.b : C := .seq (.reg [⟨some 2, .box (.t 0), none⟩,
    ⟨some 3, .box (.t 1), none⟩,
    ⟨some 4, .mv (.k (.bool false)), none⟩] [2, 3] [2, 3])
  (.seq (.reg [⟨some 5, .mv (.k (.int .i64 1048576)), none⟩] [2, 3, 5] [2, 3])
  (.seq (.reg [⟨some 10, .load true 4 (.t 2), none⟩,
    ⟨some 11, .mv (.t 5), none⟩,
    ⟨some 12, .call 29 [.t 10, .t 11] [] [], none⟩,
    ⟨some 5, .mv (.t 12), none⟩] [2, 3, 5] [2, 3])
  (.seq (.seq (.reg [⟨some 13, .mv (.t 5), none⟩,
    ⟨some 14, .bin .lss (.t 13) (.k (.int .i64 0)), none⟩] [2, 3, 5, 14] [2, 3])
  (.cond (.t 14) (.seq (.reg [⟨some 4, .mv (.k (.bool true)), none⟩] [4] [])
  (.ret)) (.skip)))
  (.seq (.reg [⟨some 15, .load true 4 (.t 3), none⟩,
    ⟨some 16, .mv (.t 5), none⟩,
    ⟨some 17, .call 29 [.t 15, .t 16] [] [], none⟩,
    ⟨some 5, .mv (.t 17), none⟩] [2, 3, 5] [2, 3])
  (.seq (.seq (.reg [⟨some 18, .mv (.t 5), none⟩,
    ⟨some 19, .bin .lss (.t 18) (.k (.int .i64 0)), none⟩] [2, 3, 19] [2, 3])
  (.cond (.t 19) (.seq (.reg [⟨some 4, .mv (.k (.bool true)), none⟩] [4] [])
  (.ret)) (.skip)))
  (.seq (.regd [⟨some 20, .load true 4 (.t 2), none⟩,
    ⟨some 21, .call 30 [.t 20] [] [], none⟩,
    ⟨some 22, .load true 4 (.t 3), none⟩,
    ⟨some 23, .call 30 [.t 22] [] [], none⟩,
    ⟨some 24, .call 62 [.t 21, .t 23] [] [], none⟩,
    ⟨some 6, .mv (.t 24), none⟩] [[], [0], [], [0, 1, 2], List.range 4, List.range 5] [2, 3, 6] [2, 3])
  (.seq (.reg [⟨some 25, .load true 4 (.t 2), none⟩,
    ⟨some 26, .call 30 [.t 25] [] [], none⟩,
    ⟨some 7, .alloc [.int .i64 0, .int .i64 0, .nils 7, .nils 1], none⟩,
    ⟨none, .store 4 (.t 7) (.t 26), none⟩] [2, 3, 6, 7] [2, 3, 7])
  (.seq (.reg [⟨some 27, .load true 4 (.t 3), none⟩,
    ⟨some 28, .call 30 [.t 27] [] [], none⟩,
    ⟨some 8, .alloc [.int .i64 0, .int .i64 0, .nils 7, .nils 1], none⟩,
    ⟨none, .store 4 (.t 8) (.t 28), none⟩] [2, 3, 6, 7, 8] [2, 3, 7, 8])
  (.seq (.reg [⟨some 29, .load true 4 (.t 7), none⟩,
    ⟨some 30, .load true 4 (.t 8), none⟩,
    ⟨some 31, .call 63 [.t 29, .t 30] [] [], none⟩,
    ⟨some 9, .mv (.t 31), none⟩] [2, 3, 6, 7, 8, 9] [2, 3, 7, 8])
  (.seq (.seq (.reg [⟨some 32, .mv (.t 9), none⟩,
    ⟨some 33, .mv (.t 6), none⟩,
    ⟨some 34, .beq true (.t 32) (.t 33), none⟩] [2, 3, 7, 8, 34] [2, 3, 7, 8])
  (.cond (.t 34) (.seq (.reg [⟨some 4, .mv (.k (.bool false)), none⟩] [4] [])
  (.ret)) (.skip)))
  (.seq (.seq (.regd [⟨some 35, .load true 4 (.t 7), none⟩,
    ⟨some 36, .load true 4 (.t 2), none⟩,
    ⟨some 37, .call 30 [.t 36] [] [], none⟩,
    ⟨some 38, .call 33 [.t 35, .t 37] [] [], none⟩,
    ⟨some 39, .not (.t 38), none⟩] [[], [], [1], [0, 1, 2], List.range 4] [3, 8, 39] [3, 8])
  (.cond (.t 39) (.seq (.reg [⟨some 4, .mv (.k (.bool false)), none⟩] [4] [])
  (.ret)) (.skip)))
  (.seq (.seq (.regd [⟨some 40, .load true 4 (.t 8), none⟩,
    ⟨some 41, .load true 4 (.t 3), none⟩,
    ⟨some 42, .call 30 [.t 41] [] [], none⟩,
    ⟨some 43, .call 33 [.t 40, .t 42] [] [], none⟩,
    ⟨some 44, .not (.t 43), none⟩] [[], [], [1], [0, 1, 2], List.range 4] [44] [])
  (.cond (.t 44) (.seq (.reg [⟨some 4, .mv (.k (.bool false)), none⟩] [4] [])
  (.ret)) (.skip)))
  (.seq (.reg [⟨some 4, .mv (.k (.bool true)), none⟩] [4] [])
  (.ret))))))))))))))
def laws_FnExactSameStore.m : Fn := { np := 2, body := laws_FnExactSameStore.b, res := [.tmp 4] }
def laws_FnExactSameStore.k (M : Nat → Option Body) : Prop := M 389 = some (.code laws_FnExactSameStore.m) ∧ laws_szStore.k M ∧ laws_toStore.k M ∧ laws_eqStore.k M ∧ spec_SameStore.k M ∧ impl_SameStore.k M
end Mx

/-
  Texts of stores on this side; the laws of StoreText, SameStore.
-/
namespace Mx
open Go
variable {M : Nat → Option Body}
set_option maxHeartbeats 1000000 in
theorem storeIn_w {s : Store} (h : wStore s ≤ 1048576) : StoreIn s := by
  unfold wStore at h
  have h2 : wBoxes s.boxes ≤ 1048576 := by omega
  have hb : ∀ b ∈ s.boxes, BoxIn b := by
    intro b hb
    have := Nat.le_trans (wBox_le hb) h2
    obtain ⟨w1, w2, w3, w4⟩ := wBox_all this
    exact ⟨w1, w2, w3, w4⟩
  refine ⟨by unfold wBoxes at h2; omega, by omega, hb, ?_⟩
  have key : ∀ l : List Box, (l.flatMap gidsOf).length ≤ (l.map wBox).sum := by
    intro l
    induction l with
    | nil => simp
    | cons b l ih =>
      have : (gidsOf b).length ≤ wBox b := by rw [gidsOf_len]; unfold wBox wMails; omega
      simp only [List.flatMap_cons, List.length_append, List.map_cons, List.sum_cons]; omega
  have := key s.boxes
  unfold wBoxes at h2; omega
theorem impl_boxText.in (h : impl_boxText.k M) {b : Box} (c : boxOk b = true) : run M 123 [.a [I b.gid, S b.name, I b.time, I b.who, I b.next, mails b.mails, ints b.gone]] [] = some (.c (S (boxT b)), []) := impl_boxText.says h b c
def txS (s : Store) (i : Nat) (t : List UInt8) (x : Nat × Nat) : St := { t := [(1, .c (.ptr 1 x.1 0 0)), (4, .c (S t)), (20, .c (boxes s.boxes)), (21, .c (I s.boxes.length)), (22, .c (I i))], o := [(1, ⟨x.1, 4, true, true, [encStore s]⟩)], n := x.2 }
def txE (s : Store) (t : List UInt8) (x : Nat × Nat) : St := { t := [(1, .c (.ptr 1 x.1 0 0)), (4, .c (S t)), (20, .c (boxes s.boxes)), (21, .c (I s.boxes.length)), (22, .c (I s.boxes.length)), (23, .c (.bool false))], o := [(1, ⟨x.1, 4, true, true, [encStore s]⟩)], n := x.2 }
set_option maxHeartbeats 1000000 in
theorem impl_StoreText.says (h : impl_StoreText.k M) (s : Store) (hs : StoreIn s) : run M 61 [.a (encStore s)] [] = some (.tup [.c (S (storeText s).1), .c (.bool (storeText s).2)], []) := by
  obtain ⟨h0, kse, kb, ko, kv⟩ := h
  have h1 := impl_StoreOk.says ko s hs
  refine run_code (b := impl_StoreText.m) h0 ⟨s.boxes.length + 1, ?_⟩
  simp only [encStore] at h1
  unfold storeText
  cases c : storeOk s
  · rw [c] at h1
    simp (maxSteps := 1000000) [exB, impl_StoreText.m, impl_StoreText.b, List.range_succ, bs_get, setAt, h1]
  rw [c] at h1
  obtain ⟨v1, v2, v3, v4, v5, v6, _⟩ := storeOk_vars c
  have g1 := impl_vars.says kv [s.who, s.time, (s.boxes.length : Int)] (by simp) (by simp; exact ⟨v1, v2, by unfold isVar; omega⟩)
  have g2 := impl_vars.says kv [(s.gone.length : Int)] (by simp) (by simp; unfold isVar; omega)
  have g3 := impl_vars.says kv s.gone (by omega) v5
  have l1 := isVar_len v1; have l2 := isVar_len v2
  have l8 := varT_len (n := s.gone.length) (by omega)
  have l9 := texts_len varI s.gone 10 fun n hn => isVar_len (v5 n hn)
  have l10 := texts_len boxT s.boxes 11000 fun b hb => boxT_len (v6 b hb)
  have hp := storeP_len c
  obtain ⟨g, hr⟩ := text_loop (f := exC (run M) (s.boxes.length + 1) impl_StoreText.l0) s.boxes boxT 11000 30 (fun b hb => boxT_len (v6 b hb)) (txS s) 0 (txE s)
    (fun i hi t x ht => by
      obtain ⟨v, x⟩ := x
      have e5 : IntKind.i64.wrap ((i : Int) + 1) = (i : Int) + 1 := wrap_i64 (by omega) (by omega)
      have hx := v6 _ (List.getElem_mem hi)
      have h6 := impl_boxText.in kb hx
      have h7 := boxT_len hx
      simp only [Prod.exists]
      have e6 := str_add t (boxT s.boxes[i]) (by omega)
      simp (maxSteps := 1000000) [impl_StoreText.l0, List.range_succ, bs_get, setAt, txS, hi, h6, e5, e6, encBox])
    (fun t x => by
      obtain ⟨v, x⟩ := x
      simp only [Prod.exists]
      simp (maxSteps := 1000000) [impl_StoreText.l0, List.range_succ, bs_get, setAt, txS, txE]) (storeP s) hp
  have q1 : texts varI [s.who, s.time, (s.boxes.length : Int)] = storeP s := by simp [texts, storeP, varI]
  have q2 : texts varI [(s.gone.length : Int)] = varT s.gone.length := by simp [texts, varI]
  rw [q1] at g1
  rw [q2] at g2
  have e8 := str_add (storeP s ++ texts boxT s.boxes) (varT s.gone.length) (by simp; omega)
  have e9 := str_add (storeP s ++ texts boxT s.boxes ++ varT s.gone.length) (texts varI s.gone) (by simp; omega)
  have hse := impl_Sealed.says kse (storeT s) (by simp only [storeT, List.length_append]; omega)
  simp only [storeT] at hse ⊢
  simp only [List.append_assoc] at e8 e9 hse
  simp only [ints, irow, List.map_cons, List.map_nil] at g1 g2
  simp [txS, txE] at hr
  generalize storeP s = p at *
  generalize texts boxT s.boxes = q at *
  generalize texts varI s.gone = r at *
  simp (maxSteps := 1000000) [exB, impl_StoreText.m, impl_StoreText.b, List.range_succ, bs_get, setAt, hr, h1, g1, g2, g3, e8, e9, hse, List.take_of_length_le]
def sameStore (a b : Store) : Bool := decide ((storeText a).1 = (storeText b).1)
theorem sealed_len {l : List UInt8} (h : (sealed l).2 = true) : 4 ≤ (sealed l).1.length := by
  unfold sealed at h ⊢
  split at h
  · cases h
  · rename_i c; rw [if_neg c]; simp [four_len]
theorem sealed_no {l : List UInt8} (h : (sealed l).2 = false) : (sealed l).1 = [] := by
  unfold sealed at h ⊢
  split at h
  · rename_i c; rw [if_pos c]
  · cases h
theorem storeText_iff (s : Store) : (storeText s).2 = true ↔ (storeText s).1 ≠ [] := by
  unfold storeText
  split
  · constructor
    · intro h e
      have := sealed_len h
      rw [e] at this; simp at this
    · intro h
      cases hs : (sealed (storeT s)).2
      · exact (h (sealed_no hs)).elim
      · rfl
  · simp
theorem spec_SameStore.says (h : spec_SameStore.k M) (a b : Store) (ha : StoreIn a) (hb : StoreIn b) : run M 62 [.a (encStore a), .a (encStore b)] [] = some (.c (.bool (sameStore a b)), []) := by
  obtain ⟨h0, k1⟩ := h
  have h1 := spec_StoreText.says k1 a ha
  have h2 := spec_StoreText.says k1 b hb
  have i1 := storeText_iff a
  have i2 := storeText_iff b
  refine run_code (b := spec_SameStore.m) h0 ⟨0, ?_⟩
  unfold sameStore
  simp only [encStore] at h1 h2
  generalize storeText a = x at *
  generalize storeText b = y at *
  obtain ⟨x, p⟩ := x
  obtain ⟨y, q⟩ := y
  simp only at i1 i2
  by_cases c : x = y
  · subst c
    have : p = q := by
      cases p <;> cases q <;> simp_all
    subst this
    simp (maxSteps := 1000000) [exB, spec_SameStore.m, spec_SameStore.b, List.range_succ, bs_get, setAt, h1, h2]
  · cases p <;> cases q <;> simp (maxSteps := 1000000) [exB, spec_SameStore.m, spec_SameStore.b, List.range_succ, bs_get, setAt, h1, h2, c]
theorem impl_SameStore.says (h : impl_SameStore.k M) (a b : Store) (ha : StoreIn a) (hb : StoreIn b) : run M 63 [.a (encStore a), .a (encStore b)] [] = some (.c (.bool (sameStore a b)), []) := by
  obtain ⟨h0, k1⟩ := h
  have h1 := impl_StoreText.says k1 a ha
  have h2 := impl_StoreText.says k1 b hb
  refine run_code (b := impl_SameStore.m) h0 ⟨0, ?_⟩
  unfold sameStore
  simp only [encStore] at h1 h2
  simp (maxSteps := 1000000) [exB, impl_SameStore.m, impl_SameStore.b, List.range_succ, bs_get, setAt, h1, h2]
theorem laws_FnExactStoreText.says (h : laws_FnExactStoreText.k M) (a : Store) (ha : StoreFits a) : run M 388 [.a (encStore a)] [] = some (.c (.bool true), []) := by
  obtain ⟨h0, k1, k2, k5, k3, k4⟩ := h
  have h1 := laws_szStore.says k1 a ha 1048576 (by omega)
  refine run_code (b := laws_FnExactStoreText.m) h0 ⟨0, ?_⟩
  by_cases c : 1048576 < wStore a
  · rw [if_pos c] at h1
    simp only [Int.cast_ofNat_Int, encStore] at h1
    simp (maxSteps := 1000000) [exB, laws_FnExactStoreText.m, laws_FnExactStoreText.b, List.range_succ, bs_get, setAt, h1]
  rw [if_neg c] at h1
  simp only [Int.cast_ofNat_Int] at h1
  have hw : wStore a ≤ 1048576 := by omega
  have e1 : ¬ (1048576 : Int) - wStore a < 0 := by omega
  have hin := storeIn_w hw
  have h2 := laws_toStore.says k2 a hw
  have h3 := spec_StoreText.says k3 a hin
  have h4 := impl_StoreText.says k4 a hin
  have h5 := laws_eqStore.says k5 a hw
  generalize storeText a = x at *
  simp only [encStore, encStoreO] at h1 h2 h3 h4 h5
  simp (maxSteps := 1000000) [exB, laws_FnExactStoreText.m, laws_FnExactStoreText.b, List.range_succ, bs_get, setAt, h1, h2, h3, h4, h5, e1, List.take_of_length_le]
theorem laws_FnExactSameStore.says (h : laws_FnExactSameStore.k M) (a b : Store) (ha : StoreFits a) (hb : StoreFits b) : run M 389 [.a (encStore a), .a (encStore b)] [] = some (.c (.bool true), []) := by
  obtain ⟨h0, k1, k2, k5, k3, k4⟩ := h
  have h1 := laws_szStore.says k1 a ha 1048576 (by omega)
  refine run_code (b := laws_FnExactSameStore.m) h0 ⟨0, ?_⟩
  by_cases c : 1048576 < wStore a
  · rw [if_pos c] at h1
    simp only [Int.cast_ofNat_Int, encStore] at h1
    simp (maxSteps := 1000000) [exB, laws_FnExactSameStore.m, laws_FnExactSameStore.b, List.range_succ, bs_get, setAt, h1]
  rw [if_neg c] at h1
  simp only [Int.cast_ofNat_Int] at h1
  have hw : wStore a ≤ 1048576 := by omega
  have e1 : ¬ (1048576 : Int) - wStore a < 0 := by omega
  have h1' := laws_szStore.says k1 b hb (1048576 - wStore a) (by omega)
  rw [show ((1048576 - wStore a : Nat) : Int) = 1048576 - (wStore a : Int) by omega] at h1'
  by_cases c2 : 1048576 - wStore a < wStore b
  · rw [if_pos c2] at h1'
    simp only [encStore] at h1 h1'
    simp (maxSteps := 1000000) [exB, laws_FnExactSameStore.m, laws_FnExactSameStore.b, List.range_succ, bs_get, setAt, h1, h1', e1]
  rw [if_neg c2] at h1'
  have hw2 : wStore b ≤ 1048576 := by omega
  have e2 : ¬ (1048576 : Int) - wStore a - wStore b < 0 := by omega
  have hin := storeIn_w hw
  have hin2 := storeIn_w hw2
  have h2 := laws_toStore.says k2 a hw
  have h2' := laws_toStore.says k2 b hw2
  have h3 := spec_SameStore.says k3 a b hin hin2
  have h4 := impl_SameStore.says k4 a b hin hin2
  have h5 := laws_eqStore.says k5 a hw
  have h5' := laws_eqStore.says k5 b hw2
  generalize sameStore a b = x at *
  simp only [encStore, encStoreO] at h1 h1' h2 h2' h3 h4 h5 h5'
  simp (maxSteps := 1000000) [exB, laws_FnExactSameStore.m, laws_FnExactSameStore.b, List.range_succ, bs_get, setAt, h1, h1', h2, h2', h3, h4, h5, h5', e1, e2, List.take_of_length_le]
theorem laws_FnExactStoreText.row (h : laws_FnExactStoreText.k M) {as : List V} (ha : HasVs [.struct ctStore] as) : run M 388 as [] = some (.c (.bool true), []) := by
  cases ha with | cons h0 ha =>
  cases ha
  cases h0 with | struct h0 =>
  obtain ⟨a, rfl, ha⟩ := has_store h0
  exact laws_FnExactStoreText.says h a ha
theorem laws_FnExactSameStore.row (h : laws_FnExactSameStore.k M) {as : List V} (ha : HasVs [.struct ctStore, .struct ctStore] as) : run M 389 as [] = some (.c (.bool true), []) := by
  cases ha with | cons h0 ha =>
  cases ha with | cons h1 ha =>
  cases ha
  cases h0 with | struct h0 =>
  cases h1 with | struct h1 =>
  obtain ⟨a, rfl, ha⟩ := has_store h0
  obtain ⟨b, rfl, hb⟩ := has_store h1
  exact laws_FnExactSameStore.says h a b ha hb
end Mx
