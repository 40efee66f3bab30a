/-
  Toward: at every input FnStores returns true, and its arguments read as they did. No condition.
-/
import Derived.Test.YtfibgklkcjpmgaaGreatRows
import Derived.Shelf.Sort.Plain
import Derived.Shelf.Slices.In.SortNone
import Derived.Shelf.Slices.CompactI
import Derived.Shelf.Spec.SlicesInsertGrow
import Derived.Test.YtfibgklkcjpmgaaGreatMxSsd
set_option linter.unusedSimpArgs false
set_option linter.unusedVariables false
namespace Go.Proofs.YtfibgklkcjpmgaaGreat.fnStores
open Go.ChangeShapes Go.WideShapes Go.ChangeAt Go.RowKit
set_option linter.unusedVariables false
def num : List (Nat × Nat) := [(36, 6), (158, 85), (159, 86), (71, 21), (124, 52), (131, 88), (125, 61), (98, 75), (186, 76), (132, 78), (90, 81), (183, 82), (276, 172), (242, 143), (187, 83), (91, 84), (88, 20), (226, 77), (227, 79), (149, 18), (241, 177), (238, 158), (180, 109), (219, 74), (196, 110), (300, 107), (301, 108), (278, 40), (282, 41), (133, 111), (283, 42), (181, 159), (81, 112), (302, 113), (279, 43), (277, 197), (243, 180), (184, 161), (84, 115), (280, 45), (86, 117), (281, 47), (175, 73), (185, 103), (174, 106), (244, 144), (113, 145), (188, 87), (408, 24), (40, 25), (200, 99), (271, 101), (228, 32), (101, 92), (147, 136), (165, 93), (234, 150), (156, 94), (161, 156), (160, 157), (72, 102), (89, 137), (164, 138), (272, 183), (235, 171), (166, 139), (74, 69), (229, 95), (150, 27), (413, 33), (431, 49), (134, 147), (239, 178), (233, 174), (155, 151), (270, 146), (220, 89), (441, 91), (409, 26), (199, 100), (95, 31), (148, 152), (157, 153), (70, 96), (410, 28), (411, 29), (442, 97), (163, 98), (412, 30), (394, 4), (440, 90), (135, 154), (136, 155)]
def tab : List (Nat × Mx.Fn) := [(36, Mx.laws_big.m), (158, Mx.laws_sameInts.m), (159, Mx.spec_SameMail.m), (71, Mx.laws_sameBox.m), (124, Mx.spec_l01New.m), (131, Mx.spec_l01Byte.m), (125, Mx.spec_l01Below.m), (98, Mx.spec_l01In.m), (186, Mx.spec_l06Sorted.m), (132, Mx.spec_l06In.m), (90, Mx.spec_NameOk.m), (183, Mx.spec_StampOk.m), (276, Mx.spec_RegOk.m), (242, Mx.spec_FlagsOk.m), (187, Mx.spec_MailOk.m), (91, Mx.spec_MailAt.m), (88, Mx.spec_BoxOk.m), (226, Mx.spec_BoxNamed.m), (227, Mx.spec_l07Times.m), (149, Mx.spec_StoreOk.m), (241, Mx.spec_l04Copy.m), (238, Mx.spec_l05Copy.m), (180, Mx.spec_l06Copy.m), (219, Mx.spec_l07Copy.m), (196, Mx.spec_BoxAt.m), (300, Mx.spec_Knows.m), (301, Mx.spec_NextStamp.m), (278, Mx.spec_MakeBox.m), (282, Mx.spec_RenameBox.m), (133, Mx.spec_l06Put.m), (283, Mx.spec_DropBox.m), (181, Mx.spec_FlagsNew.m), (81, Mx.spec_AddMail.m), (302, Mx.spec_l07Stamped.m), (279, Mx.spec_PutMail.m), (277, Mx.spec_Later.m), (243, Mx.spec_PutReg.m), (184, Mx.spec_SetFlags.m), (84, Mx.spec_FlagMail.m), (280, Mx.spec_MarkMail.m), (86, Mx.spec_TakeOut.m), (281, Mx.spec_DropMail.m), (175, Mx.spec_l01Once.m), (185, Mx.spec_l01Pick.m), (174, Mx.spec_l05Text.m), (244, Mx.spec_l07Use.m), (113, Mx.spec_StoreNew.m), (188, Mx.spec_l07Store.m), (408, Mx.spec_DrawStore.m), (40, Mx.spec_DrawPlaces.m), (200, Mx.slices_IndexFunc_impl_Box_impl_Box.m), (271, Mx.impl_BoxNamed_1.m), (228, Mx.impl_BoxNamed.m), (101, Mx.impl_within.m), (147, Mx.impl_isGid.m), (165, Mx.impl_areGids.m), (234, Mx.slices_Index_int_int.m), (156, Mx.slices_Contains_int_int.m), (161, Mx.slices_IndexFunc_impl_Mail_impl_Mail.m), (160, Mx.impl_MailAt_1.m), (72, Mx.impl_MailAt.m), (89, Mx.impl_NameOk.m), (164, Mx.impl_StampOk.m), (272, Mx.impl_RegOk.m), (235, Mx.impl_FlagsOk.m), (166, Mx.impl_MailOk.m), (74, Mx.impl_BoxOk.m), (229, Mx.impl_isLate.m), (150, Mx.impl_StoreOk.m), (413, Mx.impl_Knows.m), (431, Mx.impl_NextStamp.m), (134, Mx.impl_copyInts.m), (239, Mx.impl_copyRegs.m), (233, Mx.impl_copyMail.m), (155, Mx.impl_copyBox.m), (270, Mx.impl_copyBoxes.m), (220, Mx.impl_copyStore.m), (441, Mx.impl_orElse.m), (409, Mx.impl_MakeBox.m), (199, Mx.impl_BoxAt_1.m), (95, Mx.impl_BoxAt.m), (148, Mx.impl_isFlags.m), (157, Mx.impl_FlagsNew.m), (70, Mx.impl_AddMail.m), (410, Mx.impl_PutMail.m), (411, Mx.impl_RenameBox.m), (442, Mx.slices_Delete_impl_Box_impl_Box.m), (163, Mx.impl_added.m), (412, Mx.impl_DropBox.m), (394, Mx.laws_FnStores.m)]
def F : Nat → FuncId := Mx.tabF num
def exts : List (Nat × (List Mx.V → List (Nat × Mx.Ob) → Option (Mx.V × List (Nat × Mx.Ob)))) := [(440, Mx.insG), (135, Mx.sortG), (136, Mx.compactG)]
def M : Nat → Option Mx.Body := Mx.tabZ tab exts
/-- the numbers of the library's functions and types here -/
def rho20 : Go.Shelf.Ren := { f := fun n => if n = 20 then 155 else n, t := fun n => if n = 22 then 25 else n, g := fun n => n }
theorem lays20 : Go.Proofs.Lays2.n20 Tryz.prog rho20 where
  mixed := by kernel_rfl
  f20 := Tryz.func155.trans (congrArg some (by kernel_rfl))
  t0 := by kernel_rfl
  a0 := fun w => by kernel_rfl
  z0 := fun w => by kernel_rfl
  v0 := fun w => by kernel_rfl
  t3 := by kernel_rfl
  a3 := fun w => by kernel_rfl
  z3 := fun w => by kernel_rfl
  v3 := fun w => by kernel_rfl
  t4 := by kernel_rfl
  a4 := fun w => by kernel_rfl
  z4 := fun w => by kernel_rfl
  v4 := fun w => by kernel_rfl
  t22 := by kernel_rfl
  a22 := fun w => by kernel_rfl
  z22 := fun w => by kernel_rfl
  v22 := fun w => by kernel_rfl
  i3 := by kernel_rfl
/-- the numbers of the library's functions and types here -/
def rho189 : Go.Shelf.Ren := { f := fun n => if n = 189 then 154 else if n = 125 then 176 else if n = 257 then 175 else if n = 128 then 194 else if n = 129 then 195 else if n = 294 then 185 else if n = 295 then 186 else if n = 296 then 187 else if n = 297 then 188 else if n = 298 then 189 else if n = 299 then 190 else if n = 216 then 191 else if n = 300 then 192 else if n = 301 then 193 else if n = 328 then 198 else if n = 329 then 199 else if n = 330 then 200 else if n = 331 then 201 else if n = 332 then 202 else if n = 215 then 203 else if n = 343 then 204 else n, t := fun n => if n = 28 then 25 else if n = 46 then 151 else if n = 51 then 132 else if n = 53 then 184 else if n = 183 then 175 else if n = 182 then 174 else if n = 131 then 180 else if n = 218 then 186 else if n = 222 then 190 else if n = 228 then 192 else if n = 229 then 193 else n, g := fun n => n }
theorem lays189 : Go.Proofs.Lays.n189 Tryz.prog rho189 where
  mixed := by kernel_rfl
  f125 := Tryz.func176.trans (congrArg some (by kernel_rfl))
  f128 := Tryz.func194.trans (congrArg some (by kernel_rfl))
  f129 := Tryz.func195.trans (congrArg some (by kernel_rfl))
  f189 := Tryz.func154.trans (congrArg some (by kernel_rfl))
  f215 := Tryz.func203.trans (congrArg some (by kernel_rfl))
  f216 := Tryz.func191.trans (congrArg some (by kernel_rfl))
  f257 := Tryz.func175.trans (congrArg some (by kernel_rfl))
  f294 := Tryz.func185.trans (congrArg some (by kernel_rfl))
  f295 := Tryz.func186.trans (congrArg some (by kernel_rfl))
  f296 := Tryz.func187.trans (congrArg some (by kernel_rfl))
  f297 := Tryz.func188.trans (congrArg some (by kernel_rfl))
  f298 := Tryz.func189.trans (congrArg some (by kernel_rfl))
  f299 := Tryz.func190.trans (congrArg some (by kernel_rfl))
  f300 := Tryz.func192.trans (congrArg some (by kernel_rfl))
  f301 := Tryz.func193.trans (congrArg some (by kernel_rfl))
  f328 := Tryz.func198.trans (congrArg some (by kernel_rfl))
  f329 := Tryz.func199.trans (congrArg some (by kernel_rfl))
  f330 := Tryz.func200.trans (congrArg some (by kernel_rfl))
  f331 := Tryz.func201.trans (congrArg some (by kernel_rfl))
  f332 := Tryz.func202.trans (congrArg some (by kernel_rfl))
  f343 := Tryz.func204.trans (congrArg some (by kernel_rfl))
  t0 := by kernel_rfl
  a0 := fun w => by kernel_rfl
  z0 := fun w => by kernel_rfl
  v0 := fun w => by kernel_rfl
  t3 := by kernel_rfl
  a3 := fun w => by kernel_rfl
  z3 := fun w => by kernel_rfl
  v3 := fun w => by kernel_rfl
  t4 := by kernel_rfl
  a4 := fun w => by kernel_rfl
  z4 := fun w => by kernel_rfl
  v4 := fun w => by kernel_rfl
  t5 := by kernel_rfl
  a5 := fun w => by kernel_rfl
  z5 := fun w => by kernel_rfl
  v5 := fun w => by kernel_rfl
  t9 := by kernel_rfl
  a9 := fun w => by kernel_rfl
  z9 := fun w => by kernel_rfl
  v9 := fun w => by kernel_rfl
  t28 := by kernel_rfl
  a28 := fun w => by kernel_rfl
  z28 := fun w => by kernel_rfl
  v28 := fun w => by kernel_rfl
  t46 := by kernel_rfl
  a46 := fun w => by kernel_rfl
  z46 := fun w => by kernel_rfl
  v46 := fun w => by kernel_rfl
  t51 := by kernel_rfl
  a51 := fun w => by kernel_rfl
  z51 := fun w => by kernel_rfl
  v51 := fun w => by kernel_rfl
  t53 := by kernel_rfl
  a53 := fun w => by kernel_rfl
  z53 := fun w => by kernel_rfl
  v53 := fun w => by kernel_rfl
  t131 := by kernel_rfl
  a131 := fun w => by kernel_rfl
  z131 := fun w => by kernel_rfl
  v131 := fun w => by kernel_rfl
  t182 := by kernel_rfl
  a182 := fun w => by kernel_rfl
  z182 := fun w => by kernel_rfl
  v182 := fun w => by kernel_rfl
  t183 := by kernel_rfl
  a183 := fun w => by kernel_rfl
  z183 := fun w => by kernel_rfl
  v183 := fun w => by kernel_rfl
  t218 := by kernel_rfl
  a218 := fun w => by kernel_rfl
  z218 := fun w => by kernel_rfl
  v218 := fun w => by kernel_rfl
  t222 := by kernel_rfl
  a222 := fun w => by kernel_rfl
  z222 := fun w => by kernel_rfl
  v222 := fun w => by kernel_rfl
  t228 := by kernel_rfl
  a228 := fun w => by kernel_rfl
  z228 := fun w => by kernel_rfl
  v228 := fun w => by kernel_rfl
  t229 := by kernel_rfl
  a229 := fun w => by kernel_rfl
  z229 := fun w => by kernel_rfl
  v229 := fun w => by kernel_rfl
theorem ext135 : Mx.ExtOk Tryz.prog F 135 Mx.sortG :=
  Mx.ext_sort (by kernel_rfl) (fun p cap w => Go.Proofs.Any.slices_Sort_int_none lays189 p cap w) (fun blk off cap zs w h1 h2 h3 => Go.Proofs.Any.slices_Sort_int lays189 blk off cap zs w h1 h2 h3)
theorem ext136 : Mx.ExtOk Tryz.prog F 136 Mx.compactG :=
  Mx.ext_compact (by kernel_rfl) (fun p cap w => Go.Proofs.Any.slices_Compact_int_empty lays20 p cap w) (fun blk off cap zs w h1 h2 h3 => Go.Proofs.Any.slices_Compact_int lays20 blk off cap zs w h1 h2 h3) Mx.compact_len
section
open Go.Shelf Go.RowKit Go.Lib Go.Proofs
theorem run_copy_cellsK {P : Program} (w : World) (dT sT ty elem : TypeId) (k : Nat) (b o dLen dCap : Nat) (a : Addr) (sLen sCap : Nat) (cs : List Value)
    (hu : P.underlying dT = some (.slice elem)) (hs : (P.info? elem).map (·.size) = some k) (hn : cs.length = Nat.min sLen dLen * k)
    (hsrc : ∀ j v, cs[j]? = some v → w.cell? (a.add j) = some v) (hc : ∀ j, j < cs.length → (w.cell? ⟨b, o + j, none⟩).isSome = true) (hf : ∀ j, j < cs.length → w.frozen? ⟨b, o + j, none⟩ = false) (h1 : ∀ v ∈ cs, v.oneCell' = true) :
    (Builtin.copy_ #[dT, sT] ty #[.slice (some ⟨b, o, none⟩) dLen dCap, .slice (some a) sLen sCap]).run P w = .ok (goInt (Nat.min sLen dLen)) (w.setCells b o cs) := by
  have hl := run_loadCells_list (P := P) w a cs hsrc
  have hst := run_storeCells_cells (P := P) b o cs 0 w (by simpa using hc) (by simpa using hf) h1
  cases hq : P.info? elem with
  | none => simp [hq] at hs
  | some i =>
    have hi : i.size = k := by simpa [hq] using hs
    rw [hn] at hl
    simp [Builtin.copy_, run_underlying hu, Builtin.lenOf, Builtin.firstCells, sizeOf, typeInfo, hq, hi, hl, hst]
theorem t24 : Tryz.prog.underlying 24 = some (.slice 38) := by kernel_rfl
theorem t3 : Tryz.prog.underlying 3 = some (.int .i64) := by kernel_rfl
theorem t4 : Tryz.prog.underlying 4 = some .bool := by kernel_rfl
theorem a24 (w : World) : (isAgg 24).run Tryz.prog w = .ok false w := by kernel_rfl
theorem a3 (w : World) : (isAgg 3).run Tryz.prog w = .ok false w := by kernel_rfl
theorem a4 (w : World) : (isAgg 4).run Tryz.prog w = .ok false w := by kernel_rfl
theorem z38 (w : World) : (Go.sizeOf 38).run Tryz.prog w = .ok 7 w := by kernel_rfl
theorem z24 (w : World) : (Go.sizeOf 24).run Tryz.prog w = .ok 1 w := by kernel_rfl
theorem z3 (w : World) : (Go.sizeOf 3).run Tryz.prog w = .ok 1 w := by kernel_rfl
theorem v24 (w : World) : (zeroValue 24).run Tryz.prog w = .ok (.slice none 0 0) w := by kernel_rfl
theorem v3 (w : World) : (zeroValue 3).run Tryz.prog w = .ok (.int .i64 0) w := by kernel_rfl
theorem sz38 : (Tryz.prog.info? 38).map (·.size) = some 7 := by kernel_rfl
theorem mixed : Tryz.prog.follows .mixedOrders = true := by kernel_rfl
set_option maxHeartbeats 4000000 in
set_option maxRecDepth 100000 in
theorem ins_shift (b n c i vb vc : Nat) (cs vs : List Value) (w : World) (hi : i < n) (hroom : n + 1 ≤ c) (hbn : n ≤ 1048576) (hvb : vb ≠ b)
    (hcl : cs.length = n * 7) (hvl : vs.length = 7)
    (hcs : ∀ j v, cs[j]? = some v → w.cell? ⟨b, j, none⟩ = some v) (hsp : ∀ j, j < (n + 1) * 7 → (w.cell? ⟨b, j, none⟩).isSome = true) (hfz : ∀ j, j < (n + 1) * 7 → w.frozen? ⟨b, j, none⟩ = false)
    (hvs : ∀ j v, vs[j]? = some v → w.cell? ⟨vb, j, none⟩ = some v) (h1c : ∀ v ∈ cs, v.oneCell' = true) (h1v : ∀ v ∈ vs, v.oneCell' = true)
    (tA tB : TypeId) (kA kB : Nat) (hsa : w.shape? vb = some (tA, kA)) (hsb : w.shape? b = some (tB, kB)) (hkB : kB ≠ 0) (hfa : w.frozen? ⟨vb, 0, none⟩ = false) (hfe : w.frozen? ⟨vb, kA, none⟩ = false) :
    Calls Tryz.prog 90 #[.slice (some ⟨b, 0, none⟩) n c, .int .i64 i, .slice (some ⟨vb, 0, none⟩) 1 vc] w fun e w' =>
      e = .returned (.slice (some ⟨b, 0, none⟩) (n + 1) c) ∧ w' = (w.drew.setCells b ((i + 1) * 7) (cs.drop (i * 7))).setCells b (i * 7) vs := by
  have u3 := run_underlying t3; have u4 := run_underlying t4; have u24 := run_underlying t24
  have t24 := t24; have a24 := a24; have a3 := a3; have a4 := a4; have z38 := z38; have z24 := z24; have z3 := z3; have v24 := v24; have v3 := v3
  have mixed := mixed
  have hz2 : ¬ ((i : Int) = (n : Int)) := by omega
  have hov : ∀ lb cb, (callFunc 148 #[.slice (some ⟨vb, 0, none⟩) 1 vc, .slice (some ⟨b, (i + 1) * 7, none⟩) lb cb]).run Tryz.prog w = .ok (.value (.bool false)) w := fun lb cb => by
    rw [run_callFunc_extern Tryz.func148 (by kernel_rfl) (by kernel_rfl) (by kernel_rfl) (e := Extern.SlicesOverlaps.overlaps #[24, 24] #[4]) (by kernel_rfl),
      Lib.run_overlaps_apart w 24 4 38 t24 7 z38 ⟨vb, 0, none⟩ ⟨b, (i + 1) * 7, none⟩ 1 vc lb cb hvb tA tB kA kB hsa hsb hkB hfa hfe]
    rfl
  have hdl : (cs.drop (i * 7)).length = (n - i) * 7 := by rw [List.length_drop, hcl]; omega
  have hw1 : IntKind.i64.wrap ((i : Int) + 1) = (i : Int) + 1 := by rw [IntKind.wrap_i64]; omega
  have hb1 : (0 : Int) ≤ (i : Int) + 1 := by omega
  have hin : i ≤ n := by omega
  have htn : ((i : Int) + 1).toNat = i + 1 := by omega
  have hb2 : ¬ (c = i + 1) := by omega
  have hb3 : (i : Int) ≤ (n : Int) + 1 := by omega
  have hb4 : ¬ (c = i) := by omega
  have hcp1 : ∀ ty dc sc, (Builtin.copy_ #[24, 24] ty #[.slice (some ⟨b, (i + 1) * 7, none⟩) (n - i) dc, .slice (some ⟨b, i * 7, none⟩) (n + 1 - i) sc]).run Tryz.prog w.drew = .ok (goInt (Nat.min (n + 1 - i) (n - i))) (w.drew.setCells b ((i + 1) * 7) (cs.drop (i * 7))) := fun ty dc sc =>
    run_copy_cellsK w.drew _ _ ty 38 7 b ((i + 1) * 7) (n - i) dc ⟨b, i * 7, none⟩ (n + 1 - i) sc (cs.drop (i * 7)) t24 sz38 (by rw [hdl]; simp only [Nat.min_def]; split <;> omega)
      (fun j v hj => by rw [Addr.add_lit]; exact hcs (i * 7 + j) v (by rwa [List.getElem?_drop] at hj))
      (fun j hj => hsp _ (by omega)) (fun j hj => hfz _ (by omega)) (fun v hv => h1c v (List.mem_of_mem_drop hv))
  obtain ⟨W1, hW1⟩ : ∃ W1, W1 = w.drew.setCells b ((i + 1) * 7) (cs.drop (i * 7)) := ⟨_, rfl⟩
  have hsp1 : ∀ k, k < (n + 1) * 7 → (W1.cell? ⟨b, k, none⟩).isSome = true := fun k hk => by
    rw [hW1]
    exact isSome_setCells b (cs.drop (i * 7)) ((i + 1) * 7) w.drew (fun j hj => hsp _ (by omega)) _ (hsp k hk)
  have hcp2 : ∀ (W : World), (∀ x, W.cell? x = W1.cell? x) → (∀ x, W.frozen? x = W1.frozen? x) → ∀ ty dc, (Builtin.copy_ #[24, 24] ty #[.slice (some ⟨b, i * 7, none⟩) (n + 1 - i) dc, .slice (some ⟨vb, 0, none⟩) 1 vc]).run Tryz.prog W = .ok (goInt (Nat.min 1 (n + 1 - i))) (W.setCells b (i * 7) vs) := fun W hWc hWf ty dc =>
    run_copy_cellsK W _ _ ty 38 7 b (i * 7) (n + 1 - i) dc ⟨vb, 0, none⟩ 1 vc vs t24 sz38 (by rw [hvl]; simp only [Nat.min_def]; split <;> omega)
      (fun j v hj => by
        rw [Addr.add_lit, hWc, hW1, World.cell?_setCells_out b _ _ _ _ (fun h _ => absurd h hvb), Nat.zero_add]
        exact hvs j v hj)
      (fun j hj => by rw [hWc]; exact hsp1 _ (by omega)) (fun j hj => by rw [hWf, hW1, World.frozen?_setCells]; exact hfz _ (by omega)) h1v
  rw [← hW1] at hcp1
  go_enter Tryz.func90, Tryz.ntmps90
  go_wp2_with (simp only [hov])
  go_region_law_o (refine step_copy_runI rfl _ _ 24 24 rfl _ _ (by simp [Act.eval, Act.put]) (by simp [Act.eval, Act.put]) (hcp1 _ _ _) ?_)
  go_wp2_with (at_builtin; refine wpList_copy_runI _ rfl _ _ 24 24 rfl _ _ rfl rfl (hcp2 _ (fun _ => rfl) (fun _ => rfl) _ _) ?_)
  go_ret
  first | exact ⟨rfl, rfl⟩ | exact ⟨rfl, by rw [hW1]⟩
set_option maxHeartbeats 4000000 in
set_option maxRecDepth 100000 in
theorem ins_end (base : Option Addr) (n c vb vc : Nat) (w w1 : World) (val : Value) (hbn : base = none → n = 0) (hb0 : ∀ a, base = some a → ∃ b, a = ⟨b, 0, none⟩) (hn : n ≤ c)
    (hrun : ∀ ty, (Builtin.append_ #[24, 24] ty #[.slice base n c, .slice (some ⟨vb, 0, none⟩) 1 vc]).run Tryz.prog w = .ok val w1) :
    Calls Tryz.prog 90 #[.slice base n c, .int .i64 n, .slice (some ⟨vb, 0, none⟩) 1 vc] w fun e w' => e = .returned val ∧ w' = w1 := by
  have u3 := run_underlying t3; have u4 := run_underlying t4; have u24 := run_underlying t24
  have t24 := t24; have a24 := a24; have a3 := a3; have a4 := a4; have z38 := z38; have z24 := z24; have z3 := z3; have v24 := v24; have v3 := v3
  have mixed := mixed
  go_enter Tryz.func90, Tryz.ntmps90
  cases base with
  | none =>
    have h0 := hbn rfl
    subst h0
    go_wp2_with (at_builtin; refine Lib.wpList_append_run _ rfl _ _ _ _ rfl _ _ rfl rfl _ _ (hrun _) ?_)
    go_ret
    exact ⟨rfl, rfl⟩
  | some a =>
    obtain ⟨b, rfl⟩ := hb0 a rfl
    go_wp2_with (at_builtin; refine Lib.wpList_append_run _ rfl _ _ _ _ rfl _ _ rfl rfl _ _ (hrun _) ?_)
    all_goals (go_ret; exact ⟨rfl, rfl⟩)
theorem info38 : ∃ i z, Tryz.prog.info? 38 = some i ∧ i.zero = some z ∧ i.size = 7 ∧ i.bytes ≤ 4096 ∧ z.cells.size = 7 := by
  have h : (match Tryz.prog.info? 38 with | some i => (match i.zero with | some z => i.size == 7 && decide (i.bytes ≤ 4096) && z.cells.size == 7 | none => false) | none => false) = true := by kernel_rfl
  split at h
  · rename_i i hi
    split at h
    · rename_i z hz
      simp only [Bool.and_eq_true, beq_iff_eq, decide_eq_true_eq] at h
      exact ⟨i, z, hi, hz, h.1.1, h.1.2, h.2⟩
    · cases h
  · cases h
set_option maxHeartbeats 4000000 in
set_option maxRecDepth 100000 in
theorem ins_grow (b n c i vb vc : Nat) (cs vs : List Value) (w : World) (hi : i < n) (hnc : n ≤ c) (hroom : c < n + 1) (hbig : n ≤ 1048576)
    (hcl : cs.length = n * 7) (hvl : vs.length = 7)
    (hcs : ∀ j v, cs[j]? = some v → w.cell? ⟨b, j, none⟩ = some v)
    (hvs : ∀ j v, vs[j]? = some v → w.cell? ⟨vb, j, none⟩ = some v) (h1c : ∀ v ∈ cs, v.oneCell' = true) (h1v : ∀ v ∈ vs, v.oneCell' = true) :
    Calls Tryz.prog 90 #[.slice (some ⟨b, 0, none⟩) n c, .int .i64 i, .slice (some ⟨vb, 0, none⟩) 1 vc] w fun e w' =>
      ∃ (G : Nat) (row : Array Value), n + 1 ≤ G ∧ row.size = G * 7 ∧ e = .returned (.slice (some ⟨w.heap.size, 0, none⟩) (n + 1) G) ∧ (∀ j, j < i * 7 → row[j]? = cs[j]?) ∧
      w' = (((w.alloc (.cells row 38)).drew.setCells w.heap.size (i * 7) vs).drew).setCells w.heap.size ((i + 1) * 7) (cs.drop (i * 7)) := by
  have u3 := run_underlying t3; have u4 := run_underlying t4; have u24 := run_underlying t24
  have t3 := t3; have t24 := t24; have a24 := a24; have a3 := a3; have a4 := a4; have z38 := z38; have z24 := z24; have z3 := z3; have v24 := v24; have v3 := v3
  have mixed := mixed
  obtain ⟨i0, z0, hi0, hz0, hzs, hzb, hzc⟩ := info38
  have hz2 : ¬ ((i : Int) = (n : Int)) := by omega
  have hz3 : (c : Int) < (n : Int) + 1 := by omega
  have hbw : b < w.heap.size := block_lt_of_cell (hcs 0 _ (List.getElem?_eq_getElem (by omega)))
  have hvw : vb < w.heap.size := block_lt_of_cell (hvs 0 _ (List.getElem?_eq_getElem (by omega)))
  have hkk : (n : Int) + 1 - (i : Int) = ((n + 1 - i : Nat) : Int) := by omega
  have hik : i + (n + 1 - i) = n + 1 := by omega
  have htl : (cs.take (i * 7)).length = i * 7 := by rw [List.length_take, hcl]; omega
  have hold : (Builtin.firstCells i0.size i (.slice (some ⟨b, 0, none⟩) i c)).run Tryz.prog w.drew = .ok (cs.take (i * 7)).toArray w.drew := by
    rw [hzs]
    exact run_firstCells_some w.drew 7 i ⟨b, 0, none⟩ i c (cs.take (i * 7)) (by rw [htl]) (fun j v hj => by
      rw [Addr.add_lit, Nat.zero_add]
      rw [List.getElem?_take] at hj
      split at hj
      · exact hcs j v hj
      · cases hj)
  have hfit : Builtin.nextslicecap (n + 1) c * i0.bytes ≤ 281474976710656 := by
    refine growslice_fits hroom ?_
    calc (n + 1) * i0.bytes ≤ 1048577 * 4096 := Nat.mul_le_mul (by omega) hzb
      _ ≤ 140737488355328 := by decide
  have hrz : ∀ ty, (Builtin.append_ #[24, 3] ty #[.slice (some ⟨b, 0, none⟩) i c, .int .i64 ((n : Int) + 1 - (i : Int))]).run Tryz.prog w =
      .ok (.slice (some ⟨w.heap.size, 0, none⟩) (n + 1) (grownCap w (n + 1) c 38)) (w.drew.alloc (.cells ((cs.take (i * 7)).toArray ++ Builtin.zeroCells z0.cells (n + 1 - i) ++ Builtin.zeroCells z0.cells (grownCap w (n + 1) c 38 - (n + 1))) 38)) := fun ty => by
    have h := Lib.run_append_grow_zeros w 24 3 ty 38 i0 _ .i64 .i64 t24 t3 hi0 hz0 (some ⟨b, 0, none⟩) i c (cs.take (i * 7)) hold (n + 1 - i) (by omega) (by omega) (by omega) (by omega) (by
      calc (n + 1 - i) * i0.bytes ≤ 1048577 * 4096 := Nat.mul_le_mul (by omega) hzb
        _ ≤ 281474976710656 := by decide) (by rw [hik]; exact hfit)
    rw [hik] at h
    rw [hkk]
    exact h
  obtain ⟨G, hG⟩ : ∃ G, G = grownCap w (n + 1) c 38 := ⟨_, rfl⟩
  have hGn : n + 1 ≤ G := by rw [hG]; exact grownCap_ge w _ _ _
  have hG63 : G ≤ 9223372036854775807 := by
    have := grownCap_le_maxLen w (n + 1) c 38 (by unfold maxLen; omega)
    rw [← hG] at this
    unfold maxLen at this
    omega
  obtain ⟨ROW, hROW⟩ : ∃ ROW : Array Value, ROW = (cs.take (i * 7)).toArray ++ Builtin.zeroCells z0.cells (n + 1 - i) ++ Builtin.zeroCells z0.cells (G - (n + 1)) := ⟨_, rfl⟩
  rw [← hG] at hrz
  rw [← hROW] at hrz
  have hRs : ROW.size = G * 7 := by
    rw [hROW]
    simp only [Builtin.zeroCells, Array.size_append, List.size_toArray, htl, hzc, Array.size_map, Array.size_range]
    omega
  have hRt : ∀ j, j < i * 7 → ROW[j]? = cs[j]? := fun j hj => by
    rw [hROW, Array.append_assoc, Array.getElem?_append_left (by simp; omega)]
    rw [List.getElem?_toArray, List.getElem?_take, if_pos hj]
  have hRl : (n + 1) * 7 ≤ ROW.size := by rw [hRs]; exact Nat.mul_le_mul_right 7 hGn
  obtain ⟨W1, hW1⟩ : ∃ W1, W1 = w.drew.alloc (.cells ROW 38) := ⟨_, rfl⟩
  rw [← hW1] at hrz
  have hN : ∀ j, j < (n + 1) * 7 → (W1.cell? ⟨w.heap.size, j, none⟩).isSome = true := fun j hj => by
    rw [hW1, World.cell?_alloc_at (w := w.drew) ROW _ w.heap.size j rfl, Array.getElem?_eq_getElem (by omega)]; rfl
  have hNf : ∀ j, W1.frozen? ⟨w.heap.size, j, none⟩ = false := fun j => by rw [hW1]; exact World.frozen?_alloc_at (w := w.drew) ROW _ w.heap.size j rfl
  have hOb : ∀ j v, w.cell? ⟨b, j, none⟩ = some v → W1.cell? ⟨b, j, none⟩ = some v := fun j v h => by rw [hW1, World.cell?_alloc_past (w := w.drew) _ b j hbw]; exact h
  have hOv : ∀ j v, w.cell? ⟨vb, j, none⟩ = some v → W1.cell? ⟨vb, j, none⟩ = some v := fun j v h => by rw [hW1, World.cell?_alloc_past (w := w.drew) _ vb j hvw]; exact h
  have hcpA : ∀ (W : World), (∀ x, W.cell? x = W1.cell? x) → (∀ x, W.frozen? x = W1.frozen? x) → ∀ ty dc, (Builtin.copy_ #[24, 24] ty #[.slice (some ⟨w.heap.size, i * 7, none⟩) (n + 1 - i) dc, .slice (some ⟨vb, 0, none⟩) 1 vc]).run Tryz.prog W = .ok (goInt (Nat.min 1 (n + 1 - i))) (W.setCells w.heap.size (i * 7) vs) := fun W hWc hWf ty dc =>
    run_copy_cellsK W _ _ ty 38 7 w.heap.size (i * 7) (n + 1 - i) dc ⟨vb, 0, none⟩ 1 vc vs t24 sz38 (by rw [hvl]; simp only [Nat.min_def]; split <;> omega)
      (fun j v hj => by rw [Addr.add_lit, hWc, Nat.zero_add]; exact hOv _ v (hvs j v hj))
      (fun j hj => by rw [hWc]; exact hN _ (by omega)) (fun j hj => by rw [hWf]; exact hNf _) h1v
  have hGi : ¬ (G = i) := by omega
  have hGim : ¬ (G = i + 1) := by omega
  have hci : ¬ (c = i) := by omega
  have hbN : b ≠ w.heap.size := by omega
  have hdl : (cs.drop (i * 7)).length = (n - i) * 7 := by rw [List.length_drop, hcl]; omega
  have hcpB : ∀ (W : World), (∀ x, W.cell? x = (W1.setCells w.heap.size (i * 7) vs).cell? x) → (∀ x, W.frozen? x = (W1.setCells w.heap.size (i * 7) vs).frozen? x) → ∀ ty dc sc, (Builtin.copy_ #[24, 24] ty #[.slice (some ⟨w.heap.size, (i + 1) * 7, none⟩) (n - i) dc, .slice (some ⟨b, i * 7, none⟩) (n - i) sc]).run Tryz.prog W = .ok (goInt (Nat.min (n - i) (n - i))) (W.setCells w.heap.size ((i + 1) * 7) (cs.drop (i * 7))) := fun W hWc hWf ty dc sc =>
    run_copy_cellsK W _ _ ty 38 7 w.heap.size ((i + 1) * 7) (n - i) dc ⟨b, i * 7, none⟩ (n - i) sc (cs.drop (i * 7)) t24 sz38 (by rw [hdl]; simp)
      (fun j v hj => by
        rw [Addr.add_lit, hWc, World.cell?_setCells_out _ _ _ _ _ (fun h _ => absurd h hbN)]
        exact hOb _ v (hcs (i * 7 + j) v (by rwa [List.getElem?_drop] at hj)))
      (fun j hj => by rw [hWc]; exact isSome_setCells w.heap.size vs (i * 7) W1 (fun t ht => hN _ (by omega)) _ (hN _ (by omega)))
      (fun j hj => by rw [hWf, World.frozen?_setCells]; exact hNf _) (fun v hv => h1c v (List.mem_of_mem_drop hv))
  subst hW1
  have hE1 : ∀ x, ((w.alloc (.cells ROW 38)).drew).cell? x = (w.drew.alloc (.cells ROW 38)).cell? x := fun x => rfl
  have hE2 : ∀ x, ((w.alloc (.cells ROW 38)).drew).frozen? x = (w.drew.alloc (.cells ROW 38)).frozen? x := fun x => rfl
  have hF1 : ∀ x, (((w.alloc (.cells ROW 38)).drew.setCells w.heap.size (i * 7) vs).drew).cell? x = ((w.drew.alloc (.cells ROW 38)).setCells w.heap.size (i * 7) vs).cell? x := fun x => rfl
  have hF2 : ∀ x, (((w.alloc (.cells ROW 38)).drew.setCells w.heap.size (i * 7) vs).drew).frozen? x = ((w.drew.alloc (.cells ROW 38)).setCells w.heap.size (i * 7) vs).frozen? x := fun x => rfl
  have hw1 : IntKind.i64.wrap ((i : Int) + 1) = (i : Int) + 1 := by rw [IntKind.wrap_i64]; omega
  have hb1 : (0 : Int) ≤ (i : Int) + 1 := by omega
  have hin : i ≤ n := by omega
  have htn : ((i : Int) + 1).toNat = i + 1 := by omega
  have hb3 : (i : Int) ≤ (n : Int) := by omega
  have hfin : ∀ e w', (e = Ending.returned (.slice (some ⟨w.heap.size, 0, none⟩) (n + 1) G) ∧ w' = (((w.alloc (.cells ROW 38)).drew.setCells w.heap.size (i * 7) vs).drew).setCells w.heap.size ((i + 1) * 7) (cs.drop (i * 7))) → ∃ (G : Nat) (row : Array Value), n + 1 ≤ G ∧ row.size = G * 7 ∧ e = .returned (.slice (some ⟨w.heap.size, 0, none⟩) (n + 1) G) ∧ (∀ j, j < i * 7 → row[j]? = cs[j]?) ∧
      w' = (((w.alloc (.cells row 38)).drew.setCells w.heap.size (i * 7) vs).drew).setCells w.heap.size ((i + 1) * 7) (cs.drop (i * 7)) := fun e w' h => ⟨G, ROW, hGn, hRs, h.1, hRt, h.2⟩
  clear hkk hik hold hROW hG hRl hRt hfit hi0 hz0
  refine Calls.mono ?_ hfin
  clear hfin
  go_enter Tryz.func90, Tryz.ntmps90
  go_wp2_with (first
    | (at_builtin; refine Lib.wpList_append_run _ rfl _ _ _ _ rfl _ _ rfl rfl _ _ (hrz _) ?_)
    | (at_builtin; refine wpList_copy_runI _ rfl _ _ 24 24 rfl _ _ rfl rfl (hcpA _ hE1 hE2 _ _) ?_)
    | (at_builtin; refine wpList_copy_runI _ rfl _ _ 24 24 rfl _ _ rfl rfl (hcpB _ (fun _ => rfl) (fun _ => rfl) _ _ _) ?_))
  go_region_law_o (refine step_copy_runI rfl _ _ 24 24 rfl (.slice (some ⟨w.heap.size, (i + 1) * 7, none⟩) (n - i) (G - (i + 1))) (.slice (some ⟨b, i * 7, none⟩) (n - i) (c - i)) (by simp [Act.eval, Act.put]) (by simp [Act.eval, Act.put]) (hcpB _ hF1 hF2 3 (G - (i + 1)) (c - i)) ?_)
  go_wp2
  go_ret
  exact ⟨rfl, rfl⟩
end
theorem ext440 : Mx.ExtOk Tryz.prog F 440 Mx.insG :=
  Mx.ext_ins (tS := 24) (tE := 38) (bytes := 96) (zero := [.int .i64 0, .str ⟨#[]⟩, .int .i64 0, .int .i64 0, .int .i64 0, .nils 4, .nils 1]) (by kernel_rfl) (by kernel_rfl) (by kernel_rfl) (by kernel_rfl) (by decide) (by kernel_rfl)
    (fun base n c vb vc w w1 val h1 h2 h3 h4 => ins_end base n c vb vc w w1 val h1 h2 h3 h4)
    (fun b n c i vb vc cs vs w h1 h2 h3 h4 h5 h6 h7 h8 h9 h10 h11 h12 tA tB kA kB h13 h14 h15 h16 h17 => ins_shift b n c i vb vc cs vs w h1 h2 h3 h4 h5 h6 h7 h8 h9 h10 h11 h12 tA tB kA kB h13 h14 h15 h16 h17)
    (fun b n c i vb vc cs vs w h1 h2 h3 h4 h5 h6 h7 h8 h9 h10 => ins_grow b n c i vb vc cs vs w h1 h2 h3 h4 h5 h6 h7 h8 h9 h10)
theorem ok36 : Mx.okFunc Tryz.prog F 36 Mx.laws_big.m = true := by kernel_rfl
theorem ok158 : Mx.okFunc Tryz.prog F 158 Mx.laws_sameInts.m = true := by kernel_rfl
theorem ok159 : Mx.okFunc Tryz.prog F 159 Mx.spec_SameMail.m = true := by kernel_rfl
theorem ok71 : Mx.okFunc Tryz.prog F 71 Mx.laws_sameBox.m = true := by kernel_rfl
theorem ok124 : Mx.okFunc Tryz.prog F 124 Mx.spec_l01New.m = true := by kernel_rfl
theorem ok131 : Mx.okFunc Tryz.prog F 131 Mx.spec_l01Byte.m = true := by kernel_rfl
theorem ok125 : Mx.okFunc Tryz.prog F 125 Mx.spec_l01Below.m = true := by kernel_rfl
theorem ok98 : Mx.okFunc Tryz.prog F 98 Mx.spec_l01In.m = true := by kernel_rfl
theorem ok186 : Mx.okFunc Tryz.prog F 186 Mx.spec_l06Sorted.m = true := by kernel_rfl
theorem ok132 : Mx.okFunc Tryz.prog F 132 Mx.spec_l06In.m = true := by kernel_rfl
theorem ok90 : Mx.okFunc Tryz.prog F 90 Mx.spec_NameOk.m = true := by kernel_rfl
theorem ok183 : Mx.okFunc Tryz.prog F 183 Mx.spec_StampOk.m = true := by kernel_rfl
theorem ok276 : Mx.okFunc Tryz.prog F 276 Mx.spec_RegOk.m = true := by kernel_rfl
theorem ok242 : Mx.okFunc Tryz.prog F 242 Mx.spec_FlagsOk.m = true := by kernel_rfl
theorem ok187 : Mx.okFunc Tryz.prog F 187 Mx.spec_MailOk.m = true := by kernel_rfl
theorem ok91 : Mx.okFunc Tryz.prog F 91 Mx.spec_MailAt.m = true := by kernel_rfl
theorem ok88 : Mx.okFunc Tryz.prog F 88 Mx.spec_BoxOk.m = true := by kernel_rfl
theorem ok226 : Mx.okFunc Tryz.prog F 226 Mx.spec_BoxNamed.m = true := by kernel_rfl
theorem ok227 : Mx.okFunc Tryz.prog F 227 Mx.spec_l07Times.m = true := by kernel_rfl
theorem ok149 : Mx.okFunc Tryz.prog F 149 Mx.spec_StoreOk.m = true := by kernel_rfl
theorem ok241 : Mx.okFunc Tryz.prog F 241 Mx.spec_l04Copy.m = true := by kernel_rfl
theorem ok238 : Mx.okFunc Tryz.prog F 238 Mx.spec_l05Copy.m = true := by kernel_rfl
theorem ok180 : Mx.okFunc Tryz.prog F 180 Mx.spec_l06Copy.m = true := by kernel_rfl
theorem ok219 : Mx.okFunc Tryz.prog F 219 Mx.spec_l07Copy.m = true := by kernel_rfl
theorem ok196 : Mx.okFunc Tryz.prog F 196 Mx.spec_BoxAt.m = true := by kernel_rfl
theorem ok300 : Mx.okFunc Tryz.prog F 300 Mx.spec_Knows.m = true := by kernel_rfl
theorem ok301 : Mx.okFunc Tryz.prog F 301 Mx.spec_NextStamp.m = true := by kernel_rfl
theorem ok278 : Mx.okFunc Tryz.prog F 278 Mx.spec_MakeBox.m = true := by kernel_rfl
theorem ok282 : Mx.okFunc Tryz.prog F 282 Mx.spec_RenameBox.m = true := by kernel_rfl
theorem ok133 : Mx.okFunc Tryz.prog F 133 Mx.spec_l06Put.m = true := by kernel_rfl
theorem ok283 : Mx.okFunc Tryz.prog F 283 Mx.spec_DropBox.m = true := by kernel_rfl
theorem ok181 : Mx.okFunc Tryz.prog F 181 Mx.spec_FlagsNew.m = true := by kernel_rfl
theorem ok81 : Mx.okFunc Tryz.prog F 81 Mx.spec_AddMail.m = true := by kernel_rfl
theorem ok302 : Mx.okFunc Tryz.prog F 302 Mx.spec_l07Stamped.m = true := by kernel_rfl
theorem ok279 : Mx.okFunc Tryz.prog F 279 Mx.spec_PutMail.m = true := by kernel_rfl
theorem ok277 : Mx.okFunc Tryz.prog F 277 Mx.spec_Later.m = true := by kernel_rfl
theorem ok243 : Mx.okFunc Tryz.prog F 243 Mx.spec_PutReg.m = true := by kernel_rfl
theorem ok184 : Mx.okFunc Tryz.prog F 184 Mx.spec_SetFlags.m = true := by kernel_rfl
theorem ok84 : Mx.okFunc Tryz.prog F 84 Mx.spec_FlagMail.m = true := by kernel_rfl
theorem ok280 : Mx.okFunc Tryz.prog F 280 Mx.spec_MarkMail.m = true := by kernel_rfl
theorem ok86 : Mx.okFunc Tryz.prog F 86 Mx.spec_TakeOut.m = true := by kernel_rfl
theorem ok281 : Mx.okFunc Tryz.prog F 281 Mx.spec_DropMail.m = true := by kernel_rfl
theorem ok175 : Mx.okFunc Tryz.prog F 175 Mx.spec_l01Once.m = true := by kernel_rfl
theorem ok185 : Mx.okFunc Tryz.prog F 185 Mx.spec_l01Pick.m = true := by kernel_rfl
theorem ok174 : Mx.okFunc Tryz.prog F 174 Mx.spec_l05Text.m = true := by kernel_rfl
theorem ok244 : Mx.okFunc Tryz.prog F 244 Mx.spec_l07Use.m = true := by kernel_rfl
theorem ok113 : Mx.okFunc Tryz.prog F 113 Mx.spec_StoreNew.m = true := by kernel_rfl
theorem ok188 : Mx.okFunc Tryz.prog F 188 Mx.spec_l07Store.m = true := by kernel_rfl
theorem ok408 : Mx.okFunc Tryz.prog F 408 Mx.spec_DrawStore.m = true := by kernel_rfl
theorem ok40 : Mx.okFunc Tryz.prog F 40 Mx.spec_DrawPlaces.m = true := by kernel_rfl
theorem ok200 : Mx.okFunc Tryz.prog F 200 Mx.slices_IndexFunc_impl_Box_impl_Box.m = true := by kernel_rfl
theorem ok271 : Mx.okFunc Tryz.prog F 271 Mx.impl_BoxNamed_1.m = true := by kernel_rfl
theorem ok228 : Mx.okFunc Tryz.prog F 228 Mx.impl_BoxNamed.m = true := by kernel_rfl
theorem ok101 : Mx.okFunc Tryz.prog F 101 Mx.impl_within.m = true := by kernel_rfl
theorem ok147 : Mx.okFunc Tryz.prog F 147 Mx.impl_isGid.m = true := by kernel_rfl
theorem ok165 : Mx.okFunc Tryz.prog F 165 Mx.impl_areGids.m = true := by kernel_rfl
theorem ok234 : Mx.okFunc Tryz.prog F 234 Mx.slices_Index_int_int.m = true := by kernel_rfl
theorem ok156 : Mx.okFunc Tryz.prog F 156 Mx.slices_Contains_int_int.m = true := by kernel_rfl
theorem ok161 : Mx.okFunc Tryz.prog F 161 Mx.slices_IndexFunc_impl_Mail_impl_Mail.m = true := by kernel_rfl
theorem ok160 : Mx.okFunc Tryz.prog F 160 Mx.impl_MailAt_1.m = true := by kernel_rfl
theorem ok72 : Mx.okFunc Tryz.prog F 72 Mx.impl_MailAt.m = true := by kernel_rfl
theorem ok89 : Mx.okFunc Tryz.prog F 89 Mx.impl_NameOk.m = true := by kernel_rfl
theorem ok164 : Mx.okFunc Tryz.prog F 164 Mx.impl_StampOk.m = true := by kernel_rfl
theorem ok272 : Mx.okFunc Tryz.prog F 272 Mx.impl_RegOk.m = true := by kernel_rfl
theorem ok235 : Mx.okFunc Tryz.prog F 235 Mx.impl_FlagsOk.m = true := by kernel_rfl
theorem ok166 : Mx.okFunc Tryz.prog F 166 Mx.impl_MailOk.m = true := by kernel_rfl
theorem ok74 : Mx.okFunc Tryz.prog F 74 Mx.impl_BoxOk.m = true := by kernel_rfl
theorem ok229 : Mx.okFunc Tryz.prog F 229 Mx.impl_isLate.m = true := by kernel_rfl
theorem ok150 : Mx.okFunc Tryz.prog F 150 Mx.impl_StoreOk.m = true := by kernel_rfl
theorem ok413 : Mx.okFunc Tryz.prog F 413 Mx.impl_Knows.m = true := by kernel_rfl
theorem ok431 : Mx.okFunc Tryz.prog F 431 Mx.impl_NextStamp.m = true := by kernel_rfl
theorem ok134 : Mx.okFunc Tryz.prog F 134 Mx.impl_copyInts.m = true := by kernel_rfl
theorem ok239 : Mx.okFunc Tryz.prog F 239 Mx.impl_copyRegs.m = true := by kernel_rfl
theorem ok233 : Mx.okFunc Tryz.prog F 233 Mx.impl_copyMail.m = true := by kernel_rfl
theorem ok155 : Mx.okFunc Tryz.prog F 155 Mx.impl_copyBox.m = true := by kernel_rfl
theorem ok270 : Mx.okFunc Tryz.prog F 270 Mx.impl_copyBoxes.m = true := by kernel_rfl
theorem ok220 : Mx.okFunc Tryz.prog F 220 Mx.impl_copyStore.m = true := by kernel_rfl
theorem ok441 : Mx.okFunc Tryz.prog F 441 Mx.impl_orElse.m = true := by kernel_rfl
theorem ok409 : Mx.okFunc Tryz.prog F 409 Mx.impl_MakeBox.m = true := by kernel_rfl
theorem ok199 : Mx.okFunc Tryz.prog F 199 Mx.impl_BoxAt_1.m = true := by kernel_rfl
theorem ok95 : Mx.okFunc Tryz.prog F 95 Mx.impl_BoxAt.m = true := by kernel_rfl
theorem ok148 : Mx.okFunc Tryz.prog F 148 Mx.impl_isFlags.m = true := by kernel_rfl
theorem ok157 : Mx.okFunc Tryz.prog F 157 Mx.impl_FlagsNew.m = true := by kernel_rfl
theorem ok70 : Mx.okFunc Tryz.prog F 70 Mx.impl_AddMail.m = true := by kernel_rfl
theorem ok410 : Mx.okFunc Tryz.prog F 410 Mx.impl_PutMail.m = true := by kernel_rfl
theorem ok411 : Mx.okFunc Tryz.prog F 411 Mx.impl_RenameBox.m = true := by kernel_rfl
theorem ok442 : Mx.okFunc Tryz.prog F 442 Mx.slices_Delete_impl_Box_impl_Box.m = true := by kernel_rfl
theorem ok163 : Mx.okFunc Tryz.prog F 163 Mx.impl_added.m = true := by kernel_rfl
theorem ok412 : Mx.okFunc Tryz.prog F 412 Mx.impl_DropBox.m = true := by kernel_rfl
theorem ok394 : Mx.okFunc Tryz.prog F 394 Mx.laws_FnStores.m = true := by kernel_rfl
theorem table : Mx.TableOk Tryz.prog F M := by
  refine Mx.table_extz ?_ ?_
  · simp only [tab, List.forall_mem_cons]
    exact ⟨ok36, ok158, ok159, ok71, ok124, ok131, ok125, ok98, ok186, ok132, ok90, ok183, ok276, ok242, ok187, ok91, ok88, ok226, ok227, ok149, ok241, ok238, ok180, ok219, ok196, ok300, ok301, ok278, ok282, ok133, ok283, ok181, ok81, ok302, ok279, ok277, ok243, ok184, ok84, ok280, ok86, ok281, ok175, ok185, ok174, ok244, ok113, ok188, ok408, ok40, ok200, ok271, ok228, ok101, ok147, ok165, ok234, ok156, ok161, ok160, ok72, ok89, ok164, ok272, ok235, ok166, ok74, ok229, ok150, ok413, ok431, ok134, ok239, ok233, ok155, ok270, ok220, ok441, ok409, ok199, ok95, ok148, ok157, ok70, ok410, ok411, ok442, ok163, ok412, ok394, by simp⟩
  · simp only [exts, List.forall_mem_cons]
    exact ⟨ext440, ext135, ext136, by simp⟩
theorem k36 : Mx.laws_big.k M := rfl
theorem k158 : Mx.laws_sameInts.k M := rfl
theorem k159 : Mx.spec_SameMail.k M := rfl
theorem k71 : Mx.laws_sameBox.k M := ⟨rfl, k158, k159⟩
theorem k124 : Mx.spec_l01New.k M := rfl
theorem k131 : Mx.spec_l01Byte.k M := rfl
theorem k125 : Mx.spec_l01Below.k M := ⟨rfl, k131⟩
theorem k98 : Mx.spec_l01In.k M := rfl
theorem k186 : Mx.spec_l06Sorted.k M := ⟨rfl, k98⟩
theorem k132 : Mx.spec_l06In.k M := rfl
theorem k90 : Mx.spec_NameOk.k M := ⟨rfl, k98⟩
theorem k183 : Mx.spec_StampOk.k M := ⟨rfl, k98⟩
theorem k276 : Mx.spec_RegOk.k M := ⟨rfl, k98, k183⟩
theorem k242 : Mx.spec_FlagsOk.k M := ⟨rfl, k276⟩
theorem k187 : Mx.spec_MailOk.k M := ⟨rfl, k98, k242⟩
theorem k91 : Mx.spec_MailAt.k M := rfl
theorem k88 : Mx.spec_BoxOk.k M := ⟨rfl, k90, k91, k98, k132, k183, k186, k187⟩
theorem k226 : Mx.spec_BoxNamed.k M := rfl
theorem k227 : Mx.spec_l07Times.k M := rfl
theorem k149 : Mx.spec_StoreOk.k M := ⟨rfl, k88, k98, k132, k186, k226, k227⟩
theorem k241 : Mx.spec_l04Copy.k M := rfl
theorem k238 : Mx.spec_l05Copy.k M := ⟨rfl, k241⟩
theorem k180 : Mx.spec_l06Copy.k M := ⟨rfl, k238⟩
theorem k219 : Mx.spec_l07Copy.k M := ⟨rfl, k180⟩
theorem k196 : Mx.spec_BoxAt.k M := rfl
theorem k300 : Mx.spec_Knows.k M := ⟨rfl, k91, k132, k196⟩
theorem k301 : Mx.spec_NextStamp.k M := rfl
theorem k278 : Mx.spec_MakeBox.k M := ⟨rfl, k149, k180, k219, k226, k300, k301⟩
theorem k282 : Mx.spec_RenameBox.k M := ⟨rfl, k149, k196, k219, k226, k301⟩
theorem k133 : Mx.spec_l06Put.k M := rfl
theorem k283 : Mx.spec_DropBox.k M := ⟨rfl, k133, k149, k196, k219⟩
theorem k181 : Mx.spec_FlagsNew.k M := rfl
theorem k81 : Mx.spec_AddMail.k M := ⟨rfl, k88, k91, k98, k132, k180, k181⟩
theorem k302 : Mx.spec_l07Stamped.k M := ⟨rfl, k149, k219⟩
theorem k279 : Mx.spec_PutMail.k M := ⟨rfl, k81, k149, k196, k219, k300, k301, k302⟩
theorem k277 : Mx.spec_Later.k M := rfl
theorem k243 : Mx.spec_PutReg.k M := ⟨rfl, k276, k277⟩
theorem k184 : Mx.spec_SetFlags.k M := ⟨rfl, k98, k241, k242, k243⟩
theorem k84 : Mx.spec_FlagMail.k M := ⟨rfl, k88, k91, k98, k180, k183, k184⟩
theorem k280 : Mx.spec_MarkMail.k M := ⟨rfl, k84, k149, k196, k219, k301, k302⟩
theorem k86 : Mx.spec_TakeOut.k M := ⟨rfl, k88, k91, k133, k180⟩
theorem k281 : Mx.spec_DropMail.k M := ⟨rfl, k86, k149, k196, k219⟩
theorem k175 : Mx.spec_l01Once.k M := ⟨rfl, k125⟩
theorem k185 : Mx.spec_l01Pick.k M := ⟨rfl, k125⟩
theorem k174 : Mx.spec_l05Text.k M := ⟨rfl, k185⟩
theorem k244 : Mx.spec_l07Use.k M := ⟨rfl, k125, k174, k175, k185, k278, k279, k280, k281, k282, k283⟩
theorem k113 : Mx.spec_StoreNew.k M := rfl
theorem k188 : Mx.spec_l07Store.k M := ⟨rfl, k113, k125, k244⟩
theorem k408 : Mx.spec_DrawStore.k M := ⟨rfl, k124, k188⟩
theorem k40 : Mx.spec_DrawPlaces.k M := ⟨rfl, k124, k125, k131⟩
theorem k200 : Mx.slices_IndexFunc_impl_Box_impl_Box.k M := rfl
theorem k271 : Mx.impl_BoxNamed_1.k M := rfl
theorem k228 : Mx.impl_BoxNamed.k M := ⟨rfl, k200, k271⟩
theorem k101 : Mx.impl_within.k M := rfl
theorem k147 : Mx.impl_isGid.k M := ⟨rfl, k101⟩
theorem k165 : Mx.impl_areGids.k M := ⟨rfl, k147⟩
theorem k234 : Mx.slices_Index_int_int.k M := rfl
theorem k156 : Mx.slices_Contains_int_int.k M := ⟨rfl, k234⟩
theorem k161 : Mx.slices_IndexFunc_impl_Mail_impl_Mail.k M := rfl
theorem k160 : Mx.impl_MailAt_1.k M := rfl
theorem k72 : Mx.impl_MailAt.k M := ⟨rfl, k160, k161⟩
theorem k89 : Mx.impl_NameOk.k M := ⟨rfl, k101⟩
theorem k164 : Mx.impl_StampOk.k M := ⟨rfl, k101⟩
theorem k272 : Mx.impl_RegOk.k M := ⟨rfl, k101, k164⟩
theorem k235 : Mx.impl_FlagsOk.k M := ⟨rfl, k272⟩
theorem k166 : Mx.impl_MailOk.k M := ⟨rfl, k147, k235⟩
theorem k74 : Mx.impl_BoxOk.k M := ⟨rfl, k72, k89, k101, k147, k156, k164, k165, k166⟩
theorem k229 : Mx.impl_isLate.k M := rfl
theorem k150 : Mx.impl_StoreOk.k M := ⟨rfl, k74, k101, k156, k165, k228, k229⟩
theorem k413 : Mx.impl_Knows.k M := ⟨rfl, k72, k156⟩
theorem k431 : Mx.impl_NextStamp.k M := rfl
theorem k134 : Mx.impl_copyInts.k M := rfl
theorem k239 : Mx.impl_copyRegs.k M := rfl
theorem k233 : Mx.impl_copyMail.k M := ⟨rfl, k239⟩
theorem k155 : Mx.impl_copyBox.k M := ⟨rfl, k134, k233⟩
theorem k270 : Mx.impl_copyBoxes.k M := ⟨rfl, k155⟩
theorem k220 : Mx.impl_copyStore.k M := ⟨rfl, k134, k270⟩
theorem k441 : Mx.impl_orElse.k M := ⟨rfl, k150, k220⟩
theorem k409 : Mx.impl_MakeBox.k M := ⟨rfl, k150, k220, k228, k413, k431, rfl, k441⟩
theorem k199 : Mx.impl_BoxAt_1.k M := rfl
theorem k95 : Mx.impl_BoxAt.k M := ⟨rfl, k199, k200⟩
theorem k148 : Mx.impl_isFlags.k M := ⟨rfl, k101⟩
theorem k157 : Mx.impl_FlagsNew.k M := rfl
theorem k70 : Mx.impl_AddMail.k M := ⟨rfl, k72, k74, k148, k155, k156, k157⟩
theorem k410 : Mx.impl_PutMail.k M := ⟨rfl, k70, k95, k150, k220, k413, k431, k441⟩
theorem k411 : Mx.impl_RenameBox.k M := ⟨rfl, k95, k150, k220, k228, k431, k441⟩
theorem k442 : Mx.slices_Delete_impl_Box_impl_Box.k M := rfl
theorem k163 : Mx.impl_added.k M := ⟨rfl, k134, rfl, rfl⟩
theorem k412 : Mx.impl_DropBox.k M := ⟨rfl, k95, k150, k163, k220, k442⟩
theorem k394 : Mx.laws_FnStores.k M := ⟨rfl, k36, k40, k71, k95, k150, k228, k408, k409, k410, k411, k412, k413⟩

end Go.Proofs.YtfibgklkcjpmgaaGreat.fnStores
