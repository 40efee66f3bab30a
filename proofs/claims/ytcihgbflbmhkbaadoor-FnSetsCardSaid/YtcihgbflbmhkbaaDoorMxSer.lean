/-
  Toward: at every input FnSets returns true, and its arguments read as they did, where the listed variables read as the text of the program lays them: the tied card.
-/
import Derived.Test.YtcihgbflbmhkbaaDoorRows
import Derived.Test.YtcihgbflbmhkbaaDoorTie
import Derived.Test.YtcihgbflbmhkbaaDoorCards
import Derived.Shelf.Lays
import Derived.Shelf.Strings.Cut
import Derived.Shelf.Strings.Split
import Derived.Shelf.Vars
import Derived.Test.YtcihgbflbmhkbaaDoorMxSec
set_option linter.unusedSimpArgs false
set_option linter.unusedVariables false
namespace Go.Proofs.YtcihgbflbmhkbaaDoor.fnSets
open Go.ChangeShapes Go.WideShapes Go.ChangeAt Go.RowKit
set_option linter.unusedVariables false
def num:List (Nat×Nat):=[(36,4),(131,26),(125,27),(175,29),(179,32),(536,20),(124,21),(528,5),(128,34),(537,22),(529,6),(101,28),(539,25),(530,7),(40,8),(335,10),(344,9),(247,42),(197,37),(540,33),(535,19),(185,30),(531,11),(326,31),(322,12),(532,13),(533,14),(534,15),(327,16),(158,17),(323,18),(527,3),(538,23),(130,24),(999998,1),(999999,0)]
def tab:List (Nat×Mx.Fn):=[(36,Mx.cn.m),(131,Mx.aS.m),(125,Mx.ar.m),(175,Mx.bl.m),(179,Mx.aN.m),(536,Mx.aB.m),(124,Mx.aF.m),(528,Mx.bD.m),(128,Mx.aG.m),(537,Mx.ba.m),(529,Mx.aQ.m),(101,Mx.br.m),(539,Mx.an.m),(530,Mx.ao.m),(40,Mx.az.m),(335,Mx.aH.m),(344,Mx.a6.m),(247,Mx.bm.m),(197,Mx.aA.m),(540,Mx.bj.m),(535,Mx.aL.m),(185,Mx.bC.m),(531,Mx.aK.m),(326,Mx.ai.m),(322,Mx.al.m),(532,Mx.bn.m),(533,Mx.bc.m),(534,Mx.aR.m),(327,Mx.aM.m),(158,Mx.aT.m),(323,Mx.aZ.m),(527,Mx.aC.m)]
def F:Nat→FuncId:=Mx.sv num
def exts:List (Nat×(List Mx.V→List (Nat×Mx.Ob)→Option (Mx.V×List (Nat×Mx.Ob)))):=[(538,Mx.fM),(130,Mx.k7)]
def M:Nat→Option Mx.Body:=Mx.qZ tab exts
def rho145:Go.Shelf.Ren:={f:=fun n=>if n=145 then 24 else if n=220 then 36 else if n=219 then 41 else if n=217 then 46 else if n=225 then 47 else if n=224 then 48 else if n=267 then 49 else if n=266 then 51 else if n=314 then 52 else n,t:=fun n=>if n=59 then 48 else if n=46 then 63 else if n=146 then 73 else if n=51 then 72 else n,g:=fun n=>if n=1 then 0 else n}
theorem lays145:Go.Proofs.Lays.n145 Tryd.prog rho145 where
 mixed:=by kernel_rfl
 f145:=Tryd.func24.trans (congrArg some (by kernel_rfl))
 f217:=Tryd.func46.trans (congrArg some (by kernel_rfl))
 f219:=Tryd.func41.trans (congrArg some (by kernel_rfl))
 f220:=Tryd.func36.trans (congrArg some (by kernel_rfl))
 f224:=Tryd.func48.trans (congrArg some (by kernel_rfl))
 f225:=Tryd.func47.trans (congrArg some (by kernel_rfl))
 f266:=Tryd.func51.trans (congrArg some (by kernel_rfl))
 f267:=Tryd.func49.trans (congrArg some (by kernel_rfl))
 f314:=Tryd.func52.trans (congrArg some (by kernel_rfl))
 t3:=by kernel_rfl
 a3:=fun w=>by kernel_rfl
 z3:=fun w=>by kernel_rfl
 v3:=fun w=>by kernel_rfl
 t4:=by kernel_rfl
 a4:=fun w=>by kernel_rfl
 z4:=fun w=>by kernel_rfl
 v4:=fun w=>by kernel_rfl
 t5:=by kernel_rfl
 a5:=fun w=>by kernel_rfl
 z5:=fun w=>by kernel_rfl
 v5:=fun w=>by kernel_rfl
 t9:=by kernel_rfl
 a9:=fun w=>by kernel_rfl
 z9:=fun w=>by kernel_rfl
 v9:=fun w=>by kernel_rfl
 t46:=by kernel_rfl
 a46:=fun w=>by kernel_rfl
 z46:=fun w=>by kernel_rfl
 v46:=fun w=>by kernel_rfl
 t51:=by kernel_rfl
 a51:=fun w=>by kernel_rfl
 z51:=fun w=>by kernel_rfl
 v51:=fun w=>by kernel_rfl
 t59:=by kernel_rfl
 a59:=fun w=>by kernel_rfl
 z59:=fun w=>by kernel_rfl
 v59:=fun w=>by kernel_rfl
 t146:=by kernel_rfl
 a146:=fun w=>by kernel_rfl
 z146:=fun w=>by kernel_rfl
 v146:=fun w=>by kernel_rfl
 g1:=by kernel_rfl
def rho146:Go.Shelf.Ren:={f:=fun n=>if n=146 then 23 else if n=221 then 35 else if n=268 then 38 else if n=138 then 39 else if n=143 then 40 else if n=195 then 43 else if n=197 then 44 else if n=218 then 45 else if n=219 then 41 else if n=260 then 50 else if n=217 then 46 else if n=225 then 47 else if n=224 then 48 else if n=267 then 49 else if n=266 then 51 else if n=314 then 52 else n,t:=fun n=>if n=31 then 46 else if n=105 then 68 else if n=46 then 63 else if n=119 then 75 else if n=139 then 78 else if n=138 then 77 else if n=146 then 73 else if n=51 then 72 else n,g:=fun n=>if n=1 then 0 else if n=3 then 1 else if n=4 then 2 else n}
theorem lays146:Go.Proofs.Lays.n146 Tryd.prog rho146 where
 mixed:=by kernel_rfl
 f138:=Tryd.func39.trans (congrArg some (by kernel_rfl))
 f143:=Tryd.func40.trans (congrArg some (by kernel_rfl))
 f146:=Tryd.func23.trans (congrArg some (by kernel_rfl))
 f195:=Tryd.func43.trans (congrArg some (by kernel_rfl))
 f197:=Tryd.func44.trans (congrArg some (by kernel_rfl))
 f217:=Tryd.func46.trans (congrArg some (by kernel_rfl))
 f218:=Tryd.func45.trans (congrArg some (by kernel_rfl))
 f219:=Tryd.func41.trans (congrArg some (by kernel_rfl))
 f221:=Tryd.func35.trans (congrArg some (by kernel_rfl))
 f224:=Tryd.func48.trans (congrArg some (by kernel_rfl))
 f225:=Tryd.func47.trans (congrArg some (by kernel_rfl))
 f260:=Tryd.func50.trans (congrArg some (by kernel_rfl))
 f266:=Tryd.func51.trans (congrArg some (by kernel_rfl))
 f267:=Tryd.func49.trans (congrArg some (by kernel_rfl))
 f268:=Tryd.func38.trans (congrArg some (by kernel_rfl))
 f314:=Tryd.func52.trans (congrArg some (by kernel_rfl))
 t0:=by kernel_rfl
 a0:=fun w=>by kernel_rfl
 z0:=fun w=>by kernel_rfl
 v0:=fun w=>by kernel_rfl
 t3:=by kernel_rfl
 a3:=fun w=>by kernel_rfl
 z3:=fun w=>by kernel_rfl
 v3:=fun w=>by kernel_rfl
 t4:=by kernel_rfl
 a4:=fun w=>by kernel_rfl
 z4:=fun w=>by kernel_rfl
 v4:=fun w=>by kernel_rfl
 t5:=by kernel_rfl
 a5:=fun w=>by kernel_rfl
 z5:=fun w=>by kernel_rfl
 v5:=fun w=>by kernel_rfl
 t9:=by kernel_rfl
 a9:=fun w=>by kernel_rfl
 z9:=fun w=>by kernel_rfl
 v9:=fun w=>by kernel_rfl
 t21:=by kernel_rfl
 a21:=fun w=>by kernel_rfl
 z21:=fun w=>by kernel_rfl
 v21:=fun w=>by kernel_rfl
 t31:=by kernel_rfl
 a31:=fun w=>by kernel_rfl
 z31:=fun w=>by kernel_rfl
 v31:=fun w=>by kernel_rfl
 t46:=by kernel_rfl
 a46:=fun w=>by kernel_rfl
 z46:=fun w=>by kernel_rfl
 v46:=fun w=>by kernel_rfl
 t51:=by kernel_rfl
 a51:=fun w=>by kernel_rfl
 z51:=fun w=>by kernel_rfl
 v51:=fun w=>by kernel_rfl
 t105:=by kernel_rfl
 a105:=fun w=>by kernel_rfl
 z105:=fun w=>by kernel_rfl
 v105:=fun w=>by kernel_rfl
 t119:=by kernel_rfl
 a119:=fun w=>by kernel_rfl
 z119:=fun w=>by kernel_rfl
 t138:=by kernel_rfl
 a138:=fun w=>by kernel_rfl
 z138:=fun w=>by kernel_rfl
 v138:=fun w=>by kernel_rfl
 t139:=by kernel_rfl
 a139:=fun w=>by kernel_rfl
 z139:=fun w=>by kernel_rfl
 v139:=fun w=>by kernel_rfl
 t146:=by kernel_rfl
 a146:=fun w=>by kernel_rfl
 z146:=fun w=>by kernel_rfl
 v146:=fun w=>by kernel_rfl
 g1:=by kernel_rfl
 g3:=by kernel_rfl
 g4:=by kernel_rfl
theorem ext130:Mx.jU Tryd.prog F 130 Mx.k7:=
 Mx.p9 (by kernel_rfl) (by decide) fun s sep m w hs hm=>Go.Proofs.Any.strings_Cut lays145 s sep m w hs hm
theorem ext538:Mx.jU Tryd.prog F 538 Mx.fM:=
 Mx.nh (by kernel_rfl) (by decide) (fun s sep m w hs hm h1=>Go.Proofs.Any.strings_Split lays146 (by kernel_rfl) s sep m w hs hm h1) (fun s sep h1=>Go.Lib.splitB_all sep h1 0 _ s rfl)
theorem ok36:Mx.bE Tryd.prog F 36 Mx.cn.m=true:=by kernel_rfl
theorem ok131:Mx.bE Tryd.prog F 131 Mx.aS.m=true:=by kernel_rfl
theorem ok125:Mx.bE Tryd.prog F 125 Mx.ar.m=true:=by kernel_rfl
theorem ok175:Mx.bE Tryd.prog F 175 Mx.bl.m=true:=by kernel_rfl
theorem ok179:Mx.bE Tryd.prog F 179 Mx.aN.m=true:=by kernel_rfl
theorem ok536:Mx.bE Tryd.prog F 536 Mx.aB.m=true:=by kernel_rfl
theorem ok124:Mx.bE Tryd.prog F 124 Mx.aF.m=true:=by kernel_rfl
theorem ok528:Mx.bE Tryd.prog F 528 Mx.bD.m=true:=by kernel_rfl
theorem ok128:Mx.bE Tryd.prog F 128 Mx.aG.m=true:=by kernel_rfl
theorem ok537:Mx.bE Tryd.prog F 537 Mx.ba.m=true:=by kernel_rfl
theorem ok529:Mx.bE Tryd.prog F 529 Mx.aQ.m=true:=by kernel_rfl
theorem ok101:Mx.bE Tryd.prog F 101 Mx.br.m=true:=by kernel_rfl
theorem ok539:Mx.bE Tryd.prog F 539 Mx.an.m=true:=by kernel_rfl
theorem ok530:Mx.bE Tryd.prog F 530 Mx.ao.m=true:=by kernel_rfl
theorem ok40:Mx.bE Tryd.prog F 40 Mx.az.m=true:=by kernel_rfl
theorem ok335:Mx.bE Tryd.prog F 335 Mx.aH.m=true:=by kernel_rfl
theorem ok344:Mx.bE Tryd.prog F 344 Mx.a6.m=true:=by kernel_rfl
theorem ok247:Mx.bE Tryd.prog F 247 Mx.bm.m=true:=by kernel_rfl
theorem ok197:Mx.bE Tryd.prog F 197 Mx.aA.m=true:=by kernel_rfl
theorem ok540:Mx.bE Tryd.prog F 540 Mx.bj.m=true:=by kernel_rfl
theorem ok535:Mx.bE Tryd.prog F 535 Mx.aL.m=true:=by kernel_rfl
theorem ok185:Mx.bE Tryd.prog F 185 Mx.bC.m=true:=by kernel_rfl
theorem ok531:Mx.bE Tryd.prog F 531 Mx.aK.m=true:=by kernel_rfl
theorem ok326:Mx.bE Tryd.prog F 326 Mx.ai.m=true:=by kernel_rfl
theorem ok322:Mx.bE Tryd.prog F 322 Mx.al.m=true:=by kernel_rfl
theorem ok532:Mx.bE Tryd.prog F 532 Mx.bn.m=true:=by kernel_rfl
theorem ok533:Mx.bE Tryd.prog F 533 Mx.bc.m=true:=by kernel_rfl
theorem ok534:Mx.bE Tryd.prog F 534 Mx.aR.m=true:=by kernel_rfl
theorem ok327:Mx.bE Tryd.prog F 327 Mx.aM.m=true:=by kernel_rfl
theorem ok158:Mx.bE Tryd.prog F 158 Mx.aT.m=true:=by kernel_rfl
theorem ok323:Mx.bE Tryd.prog F 323 Mx.aZ.m=true:=by kernel_rfl
theorem ok527:Mx.bE Tryd.prog F 527 Mx.aC.m=true:=by kernel_rfl
set_option maxHeartbeats 4000000 in
set_option maxRecDepth 100000 in
theorem table:Mx.fB Tryd.prog F M:=by
 refine Mx.lA ?_ ?_
 ·simp only[tab,List.forall_mem_cons];exact⟨ok36,ok131,ok125,ok175,ok179,ok536,ok124,ok528,ok128,ok537,ok529,ok101,ok539,ok530,ok40,ok335,ok344,ok247,ok197,ok540,ok535,ok185,ok531,ok326,ok322,ok532,ok533,ok534,ok327,ok158,ok323,ok527,by simp⟩
 ·simp only[exts,List.forall_mem_cons];exact⟨ext538,ext130,by simp⟩
theorem k36:Mx.cn.k M:=rfl
theorem k131:Mx.aS.k M:=rfl
theorem k125:Mx.ar.k M:=⟨rfl,k131⟩
theorem k175:Mx.bl.k M:=⟨rfl,k125⟩
theorem k179:Mx.aN.k M:=⟨rfl,k125⟩
theorem k536:Mx.aB.k M:=⟨rfl,k125,k175,k179⟩
theorem k124:Mx.aF.k M:=rfl
theorem k528:Mx.bD.k M:=⟨rfl,k124,k536⟩
theorem k128:Mx.aG.k M:=rfl
theorem k537:Mx.ba.k M:=⟨rfl,k128⟩
theorem k529:Mx.aQ.k M:=⟨rfl,k537⟩
theorem k101:Mx.br.k M:=rfl
theorem k539:Mx.an.k M:=⟨rfl,k101⟩
theorem k530:Mx.ao.k M:=⟨rfl,rfl,rfl,k539⟩
theorem k40:Mx.az.k M:=⟨rfl,k124,k125,k131⟩
theorem k335:Mx.aH.k M:=⟨rfl,k101⟩
theorem k344:Mx.a6.k M:=⟨rfl,k335⟩
theorem k247:Mx.bm.k M:=rfl
theorem k197:Mx.aA.k M:=⟨rfl,k247⟩
theorem k540:Mx.bj.k M:=⟨rfl,k197⟩
theorem k535:Mx.aL.k M:=⟨rfl,k540⟩
theorem k185:Mx.bC.k M:=⟨rfl,k125⟩
theorem k531:Mx.aK.k M:=⟨rfl,k124,k175,k185,k535,k536⟩
theorem k326:Mx.ai.k M:=rfl
theorem k322:Mx.al.k M:=⟨rfl,k326⟩
theorem k532:Mx.bn.k M:=⟨rfl,k124,k125,k536⟩
theorem k533:Mx.bc.k M:=⟨rfl,k124,k179,k536⟩
theorem k534:Mx.aR.k M:=rfl
theorem k327:Mx.aM.k M:=rfl
theorem k158:Mx.aT.k M:=rfl
theorem k323:Mx.aZ.k M:=⟨rfl,k327⟩
theorem k527:Mx.aC.k M:=⟨rfl,k36,k40,k158,k322,k323,k327,k335,k344,k528,k529,k530,k531,k532,k533,k534,k535⟩
theorem hglob(W:World)(h:W.ShapedOpen Tryd.prog):∃m,W.cell? ⟨F 999999,0,none⟩=some (.int .i64 m):=
 Go.Proofs.cell_of_shapedOpen_int (g:=0) (t:=3) (zero:= #[.int .i64 0]) h (of_decide_eq_true (by kernel_rfl)) (by kernel_rfl) rfl (by kernel_rfl) (by kernel_rfl) (by kernel_rfl)
end Go.Proofs.YtcihgbflbmhkbaaDoor.fnSets
