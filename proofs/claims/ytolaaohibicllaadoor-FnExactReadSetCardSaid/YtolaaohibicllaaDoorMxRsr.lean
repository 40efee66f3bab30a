/-
  Toward: at every input FnExactReadSet returns true, and its arguments read as they did, where the listed variables read as the text of the program lays them: the tied card.
-/
import Derived.Test.YtolaaohibicllaaDoorRows
import Derived.Test.YtolaaohibicllaaDoorTie
import Derived.Test.YtolaaohibicllaaDoorCards
import Derived.Shelf.Lays
import Derived.Shelf.Strings.Cut
import Derived.Shelf.Strings.Split
import Derived.Shelf.Vars
import Derived.Test.YtolaaohibicllaaDoorMxRsc
set_option linter.unusedSimpArgs false
set_option linter.unusedVariables false
namespace Go.Proofs.YtolaaohibicllaaDoor.fnExactReadSet
open Go.ChangeShapes Go.WideShapes Go.ChangeAt Go.RowKit
set_option linter.unusedVariables false
def num:List (Nat×Nat):=[(326,9),(322,4),(101,16),(539,12),(530,5),(347,13),(336,6),(345,7),(555,8),(554,3),(538,10),(130,11),(999998,1),(999999,0)]
def tab:List (Nat×Mx.Fn):=[(326,Mx.ai.m),(322,Mx.aj.m),(101,Mx.aT.m),(539,Mx.ak.m),(530,Mx.an.m),(347,Mx.aR.m),(336,Mx.aB.m),(345,Mx.aw.m),(555,Mx.ay.m),(554,Mx.aq.m)]
def F:Nat→FuncId:=Mx.pX num
def exts:List (Nat×(List Mx.V→List (Nat×Mx.Ob)→Option (Mx.V×List (Nat×Mx.Ob)))):=[(538,Mx.eG),(130,Mx.jB)]
def M:Nat→Option Mx.Body:=Mx.o6 tab exts
def rho145:Go.Shelf.Ren:={f:=fun n=>if n=145 then 11 else if n=220 then 15 else if n=219 then 20 else if n=217 then 24 else if n=225 then 25 else if n=224 then 26 else if n=267 then 27 else if n=266 then 29 else if n=314 then 30 else n,t:=fun n=>if n=59 then 34 else if n=46 then 48 else if n=146 then 50 else if n=51 then 49 else n,g:=fun n=>if n=1 then 0 else n}
theorem lays145:Go.Proofs.Lays.n145 Tryd.prog rho145 where
 mixed:=by kernel_rfl
 f145:=Tryd.func11.trans (congrArg some (by kernel_rfl))
 f217:=Tryd.func24.trans (congrArg some (by kernel_rfl))
 f219:=Tryd.func20.trans (congrArg some (by kernel_rfl))
 f220:=Tryd.func15.trans (congrArg some (by kernel_rfl))
 f224:=Tryd.func26.trans (congrArg some (by kernel_rfl))
 f225:=Tryd.func25.trans (congrArg some (by kernel_rfl))
 f266:=Tryd.func29.trans (congrArg some (by kernel_rfl))
 f267:=Tryd.func27.trans (congrArg some (by kernel_rfl))
 f314:=Tryd.func30.trans (congrArg some (by kernel_rfl))
 t3:=by kernel_rfl
 a3:=fun w=>by kernel_rfl
 z3:=fun w=>by kernel_rfl
 v3:=fun w=>by kernel_rfl
 t4:=by kernel_rfl
 a4:=fun w=>by kernel_rfl
 z4:=fun w=>by kernel_rfl
 v4:=fun w=>by kernel_rfl
 t5:=by kernel_rfl
 a5:=fun w=>by kernel_rfl
 z5:=fun w=>by kernel_rfl
 v5:=fun w=>by kernel_rfl
 t9:=by kernel_rfl
 a9:=fun w=>by kernel_rfl
 z9:=fun w=>by kernel_rfl
 v9:=fun w=>by kernel_rfl
 t46:=by kernel_rfl
 a46:=fun w=>by kernel_rfl
 z46:=fun w=>by kernel_rfl
 v46:=fun w=>by kernel_rfl
 t51:=by kernel_rfl
 a51:=fun w=>by kernel_rfl
 z51:=fun w=>by kernel_rfl
 v51:=fun w=>by kernel_rfl
 t59:=by kernel_rfl
 a59:=fun w=>by kernel_rfl
 z59:=fun w=>by kernel_rfl
 v59:=fun w=>by kernel_rfl
 t146:=by kernel_rfl
 a146:=fun w=>by kernel_rfl
 z146:=fun w=>by kernel_rfl
 v146:=fun w=>by kernel_rfl
 g1:=by kernel_rfl
def rho146:Go.Shelf.Ren:={f:=fun n=>if n=146 then 10 else if n=221 then 14 else if n=268 then 17 else if n=138 then 18 else if n=143 then 19 else if n=195 then 21 else if n=197 then 22 else if n=218 then 23 else if n=219 then 20 else if n=260 then 28 else if n=217 then 24 else if n=225 then 25 else if n=224 then 26 else if n=267 then 27 else if n=266 then 29 else if n=314 then 30 else n,t:=fun n=>if n=31 then 32 else if n=105 then 44 else if n=46 then 48 else if n=119 then 52 else if n=139 then 55 else if n=138 then 54 else if n=146 then 50 else if n=51 then 49 else n,g:=fun n=>if n=1 then 0 else if n=3 then 1 else if n=4 then 2 else n}
theorem lays146:Go.Proofs.Lays.n146 Tryd.prog rho146 where
 mixed:=by kernel_rfl
 f138:=Tryd.func18.trans (congrArg some (by kernel_rfl))
 f143:=Tryd.func19.trans (congrArg some (by kernel_rfl))
 f146:=Tryd.func10.trans (congrArg some (by kernel_rfl))
 f195:=Tryd.func21.trans (congrArg some (by kernel_rfl))
 f197:=Tryd.func22.trans (congrArg some (by kernel_rfl))
 f217:=Tryd.func24.trans (congrArg some (by kernel_rfl))
 f218:=Tryd.func23.trans (congrArg some (by kernel_rfl))
 f219:=Tryd.func20.trans (congrArg some (by kernel_rfl))
 f221:=Tryd.func14.trans (congrArg some (by kernel_rfl))
 f224:=Tryd.func26.trans (congrArg some (by kernel_rfl))
 f225:=Tryd.func25.trans (congrArg some (by kernel_rfl))
 f260:=Tryd.func28.trans (congrArg some (by kernel_rfl))
 f266:=Tryd.func29.trans (congrArg some (by kernel_rfl))
 f267:=Tryd.func27.trans (congrArg some (by kernel_rfl))
 f268:=Tryd.func17.trans (congrArg some (by kernel_rfl))
 f314:=Tryd.func30.trans (congrArg some (by kernel_rfl))
 t0:=by kernel_rfl
 a0:=fun w=>by kernel_rfl
 z0:=fun w=>by kernel_rfl
 v0:=fun w=>by kernel_rfl
 t3:=by kernel_rfl
 a3:=fun w=>by kernel_rfl
 z3:=fun w=>by kernel_rfl
 v3:=fun w=>by kernel_rfl
 t4:=by kernel_rfl
 a4:=fun w=>by kernel_rfl
 z4:=fun w=>by kernel_rfl
 v4:=fun w=>by kernel_rfl
 t5:=by kernel_rfl
 a5:=fun w=>by kernel_rfl
 z5:=fun w=>by kernel_rfl
 v5:=fun w=>by kernel_rfl
 t9:=by kernel_rfl
 a9:=fun w=>by kernel_rfl
 z9:=fun w=>by kernel_rfl
 v9:=fun w=>by kernel_rfl
 t21:=by kernel_rfl
 a21:=fun w=>by kernel_rfl
 z21:=fun w=>by kernel_rfl
 v21:=fun w=>by kernel_rfl
 t31:=by kernel_rfl
 a31:=fun w=>by kernel_rfl
 z31:=fun w=>by kernel_rfl
 v31:=fun w=>by kernel_rfl
 t46:=by kernel_rfl
 a46:=fun w=>by kernel_rfl
 z46:=fun w=>by kernel_rfl
 v46:=fun w=>by kernel_rfl
 t51:=by kernel_rfl
 a51:=fun w=>by kernel_rfl
 z51:=fun w=>by kernel_rfl
 v51:=fun w=>by kernel_rfl
 t105:=by kernel_rfl
 a105:=fun w=>by kernel_rfl
 z105:=fun w=>by kernel_rfl
 v105:=fun w=>by kernel_rfl
 t119:=by kernel_rfl
 a119:=fun w=>by kernel_rfl
 z119:=fun w=>by kernel_rfl
 t138:=by kernel_rfl
 a138:=fun w=>by kernel_rfl
 z138:=fun w=>by kernel_rfl
 v138:=fun w=>by kernel_rfl
 t139:=by kernel_rfl
 a139:=fun w=>by kernel_rfl
 z139:=fun w=>by kernel_rfl
 v139:=fun w=>by kernel_rfl
 t146:=by kernel_rfl
 a146:=fun w=>by kernel_rfl
 z146:=fun w=>by kernel_rfl
 v146:=fun w=>by kernel_rfl
 g1:=by kernel_rfl
 g3:=by kernel_rfl
 g4:=by kernel_rfl
theorem ext130:Mx.iB Tryd.prog F 130 Mx.jB:=
 Mx.oi (by kernel_rfl) (by decide) fun s sep m w hs hm=>Go.Proofs.Any.strings_Cut lays145 s sep m w hs hm
theorem ext538:Mx.iB Tryd.prog F 538 Mx.eG:=
 Mx.lA (by kernel_rfl) (by decide) (fun s sep m w hs hm h1=>Go.Proofs.Any.strings_Split lays146 (by kernel_rfl) s sep m w hs hm h1) (fun s sep h1=>Go.Lib.splitB_all sep h1 0 _ s rfl)
theorem ok326:Mx.ch Tryd.prog F 326 Mx.ai.m=true:=by kernel_rfl
theorem ok322:Mx.ch Tryd.prog F 322 Mx.aj.m=true:=by kernel_rfl
theorem ok101:Mx.ch Tryd.prog F 101 Mx.aT.m=true:=by kernel_rfl
theorem ok539:Mx.ch Tryd.prog F 539 Mx.ak.m=true:=by kernel_rfl
theorem ok530:Mx.ch Tryd.prog F 530 Mx.an.m=true:=by kernel_rfl
theorem ok347:Mx.ch Tryd.prog F 347 Mx.aR.m=true:=by kernel_rfl
theorem ok336:Mx.ch Tryd.prog F 336 Mx.aB.m=true:=by kernel_rfl
theorem ok345:Mx.ch Tryd.prog F 345 Mx.aw.m=true:=by kernel_rfl
theorem ok555:Mx.ch Tryd.prog F 555 Mx.ay.m=true:=by kernel_rfl
theorem ok554:Mx.ch Tryd.prog F 554 Mx.aq.m=true:=by kernel_rfl
set_option maxHeartbeats 4000000 in
set_option maxRecDepth 100000 in
theorem table:Mx.eo Tryd.prog F M:=by
 refine Mx.jT ?_ ?_
 ·simp only[tab,List.forall_mem_cons];exact⟨ok326,ok322,ok101,ok539,ok530,ok347,ok336,ok345,ok555,ok554,by simp⟩
 ·simp only[exts,List.forall_mem_cons];exact⟨ext538,ext130,by simp⟩
theorem k326:Mx.ai.k M:=rfl
theorem k322:Mx.aj.k M:=⟨rfl,k326⟩
theorem k101:Mx.aT.k M:=rfl
theorem k539:Mx.ak.k M:=⟨rfl,k101⟩
theorem k530:Mx.an.k M:=⟨rfl,rfl,rfl,k539⟩
theorem k347:Mx.aR.k M:=rfl
theorem k336:Mx.aB.k M:=⟨rfl,k347⟩
theorem k345:Mx.aw.k M:=rfl
theorem k555:Mx.ay.k M:=rfl
theorem k554:Mx.aq.k M:=⟨rfl,k322,k336,k345,k530,k555⟩
theorem hglob(W:World)(h:W.ShapedOpen Tryd.prog):∃m,W.cell? ⟨F 999999,0,none⟩=some (.int .i64 m):=
 Go.Proofs.cell_of_shapedOpen_int (g:=0) (t:=3) (zero:= #[.int .i64 0]) h (of_decide_eq_true (by kernel_rfl)) (by kernel_rfl) rfl (by kernel_rfl) (by kernel_rfl) (by kernel_rfl)
end Go.Proofs.YtolaaohibicllaaDoor.fnExactReadSet
