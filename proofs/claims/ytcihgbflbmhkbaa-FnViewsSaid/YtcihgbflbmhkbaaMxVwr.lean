/-
  Toward: at every input FnViews returns true, and its arguments read as they did. No condition.
-/
import Derived.Test.YtcihgbflbmhkbaaRows
import Derived.Test.YtcihgbflbmhkbaaMxVwe
set_option linter.unusedSimpArgs false
set_option linter.unusedVariables false
namespace Go.Proofs.Ytcihgbflbmhkbaa.fnViews
open Go.ChangeShapes Go.WideShapes Go.ChangeAt Go.RowKit
set_option linter.unusedVariables false
def num:List (Nat×Nat):=[(36,8),(124,37),(131,44),(125,38),(175,89),(185,90),(241,207),(238,180),(180,147),(219,97),(91,83),(98,104),(183,106),(276,184),(242,150),(187,103),(90,105),(186,107),(132,108),(88,53),(226,157),(227,158),(149,125),(196,82),(300,187),(301,188),(278,163),(181,210),(81,189),(302,190),(279,164),(174,165),(277,232),(243,226),(184,211),(84,191),(280,166),(133,193),(86,192),(281,167),(282,168),(283,169),(244,134),(113,135),(188,73),(195,81),(284,170),(285,171),(304,195),(316,212),(305,196),(317,213),(325,227),(318,214),(303,194),(306,197),(286,172),(247,140),(197,84),(198,85),(94,33),(307,198),(308,199),(319,215),(320,216),(309,200),(321,217),(326,228),(322,218),(327,229),(323,219),(328,230),(324,220),(310,201),(311,202),(287,173),(245,136),(189,74),(92,31),(200,86),(199,87),(95,34),(128,41),(134,137),(190,75),(191,76),(192,77),(234,138),(156,78),(246,139),(194,79),(193,80),(93,32),(158,88),(96,35),(97,36),(525,7)]
def tab:List (Nat×Mx.Fn):=[(36,Mx.eW.m),(124,Mx.cV.m),(131,Mx.cP.m),(125,Mx.a4.m),(175,Mx.dc.m),(185,Mx.cG.m),(241,Mx.dp.m),(238,Mx.dK.m),(180,Mx.bD.m),(219,Mx.bz.m),(91,Mx.aX.m),(98,Mx.bh.m),(183,Mx.de.m),(276,Mx.dT.m),(242,Mx.bZ.m),(187,Mx.cM.m),(90,Mx.cC.m),(186,Mx.bu.m),(132,Mx.bC.m),(88,Mx.aU.m),(226,Mx.bg.m),(227,Mx.a9.m),(149,Mx.aC.m),(196,Mx.bJ.m),(300,Mx.cw.m),(301,Mx.ca.m),(278,Mx.ba.m),(181,Mx.cW.m),(81,Mx.cd.m),(302,Mx.ch.m),(279,Mx.cv.m),(174,Mx.dD.m),(277,Mx.eb.m),(243,Mx.dU.m),(184,Mx.bG.m),(84,Mx.b_.m),(280,Mx.cm.m),(133,Mx.bX.m),(86,Mx.bT.m),(281,Mx.cn.m),(282,Mx.bN.m),(283,Mx.cy.m),(244,Mx.aM.m),(113,Mx.dr.m),(188,Mx.dq.m),(195,Mx.bn.m),(284,Mx.cZ.m),(285,Mx.dC.m),(304,Mx.aV.m),(316,Mx.aK.m),(305,Mx.bq.m),(317,Mx.aB.m),(325,Mx.bw.m),(318,Mx.aZ.m),(303,Mx.bo.m),(306,Mx.bS.m),(286,Mx.aG.m),(247,Mx.dg.m),(197,Mx.a0.m),(198,Mx.cF.m),(94,Mx.bO.m),(307,Mx.aO.m),(308,Mx.a8.m),(319,Mx.a_.m),(320,Mx.cU.m),(309,Mx.aY.m),(321,Mx.bL.m),(326,Mx.aT.m),(322,Mx.aS.m),(327,Mx.cD.m),(323,Mx.bU.m),(328,Mx.cu.m),(324,Mx.bF.m),(310,Mx.aw.m),(311,Mx.bQ.m),(287,Mx.av.m),(245,Mx.aR.m),(189,Mx.bt.m),(92,Mx.du.m),(200,Mx.aF.m),(199,Mx.dL.m),(95,Mx.ec.m),(128,Mx.bM.m),(134,Mx.dv.m),(190,Mx.cR.m),(191,Mx.dI.m),(192,Mx.dh.m),(234,Mx.a6.m),(156,Mx.bd.m),(246,Mx.aQ.m),(194,Mx.bf.m),(193,Mx.ee.m),(93,Mx.cj.m),(158,Mx.cH.m),(96,Mx.cQ.m),(97,Mx.c_.m),(525,Mx.cI.m)]
def F:Nat→FuncId:=Mx.Co num
def M:Nat→Option Mx.Body:=Mx.AI tab
theorem ok36:Mx.a7 Try.prog F 36 Mx.eW.m=true:=by kernel_rfl
theorem ok124:Mx.a7 Try.prog F 124 Mx.cV.m=true:=by kernel_rfl
theorem ok131:Mx.a7 Try.prog F 131 Mx.cP.m=true:=by kernel_rfl
theorem ok125:Mx.a7 Try.prog F 125 Mx.a4.m=true:=by kernel_rfl
theorem ok175:Mx.a7 Try.prog F 175 Mx.dc.m=true:=by kernel_rfl
theorem ok185:Mx.a7 Try.prog F 185 Mx.cG.m=true:=by kernel_rfl
theorem ok241:Mx.a7 Try.prog F 241 Mx.dp.m=true:=by kernel_rfl
theorem ok238:Mx.a7 Try.prog F 238 Mx.dK.m=true:=by kernel_rfl
theorem ok180:Mx.a7 Try.prog F 180 Mx.bD.m=true:=by kernel_rfl
theorem ok219:Mx.a7 Try.prog F 219 Mx.bz.m=true:=by kernel_rfl
theorem ok91:Mx.a7 Try.prog F 91 Mx.aX.m=true:=by kernel_rfl
theorem ok98:Mx.a7 Try.prog F 98 Mx.bh.m=true:=by kernel_rfl
theorem ok183:Mx.a7 Try.prog F 183 Mx.de.m=true:=by kernel_rfl
theorem ok276:Mx.a7 Try.prog F 276 Mx.dT.m=true:=by kernel_rfl
theorem ok242:Mx.a7 Try.prog F 242 Mx.bZ.m=true:=by kernel_rfl
theorem ok187:Mx.a7 Try.prog F 187 Mx.cM.m=true:=by kernel_rfl
theorem ok90:Mx.a7 Try.prog F 90 Mx.cC.m=true:=by kernel_rfl
theorem ok186:Mx.a7 Try.prog F 186 Mx.bu.m=true:=by kernel_rfl
theorem ok132:Mx.a7 Try.prog F 132 Mx.bC.m=true:=by kernel_rfl
theorem ok88:Mx.a7 Try.prog F 88 Mx.aU.m=true:=by kernel_rfl
theorem ok226:Mx.a7 Try.prog F 226 Mx.bg.m=true:=by kernel_rfl
theorem ok227:Mx.a7 Try.prog F 227 Mx.a9.m=true:=by kernel_rfl
theorem ok149:Mx.a7 Try.prog F 149 Mx.aC.m=true:=by kernel_rfl
theorem ok196:Mx.a7 Try.prog F 196 Mx.bJ.m=true:=by kernel_rfl
theorem ok300:Mx.a7 Try.prog F 300 Mx.cw.m=true:=by kernel_rfl
theorem ok301:Mx.a7 Try.prog F 301 Mx.ca.m=true:=by kernel_rfl
theorem ok278:Mx.a7 Try.prog F 278 Mx.ba.m=true:=by kernel_rfl
theorem ok181:Mx.a7 Try.prog F 181 Mx.cW.m=true:=by kernel_rfl
theorem ok81:Mx.a7 Try.prog F 81 Mx.cd.m=true:=by kernel_rfl
theorem ok302:Mx.a7 Try.prog F 302 Mx.ch.m=true:=by kernel_rfl
theorem ok279:Mx.a7 Try.prog F 279 Mx.cv.m=true:=by kernel_rfl
theorem ok174:Mx.a7 Try.prog F 174 Mx.dD.m=true:=by kernel_rfl
theorem ok277:Mx.a7 Try.prog F 277 Mx.eb.m=true:=by kernel_rfl
theorem ok243:Mx.a7 Try.prog F 243 Mx.dU.m=true:=by kernel_rfl
theorem ok184:Mx.a7 Try.prog F 184 Mx.bG.m=true:=by kernel_rfl
theorem ok84:Mx.a7 Try.prog F 84 Mx.b_.m=true:=by kernel_rfl
theorem ok280:Mx.a7 Try.prog F 280 Mx.cm.m=true:=by kernel_rfl
theorem ok133:Mx.a7 Try.prog F 133 Mx.bX.m=true:=by kernel_rfl
theorem ok86:Mx.a7 Try.prog F 86 Mx.bT.m=true:=by kernel_rfl
theorem ok281:Mx.a7 Try.prog F 281 Mx.cn.m=true:=by kernel_rfl
theorem ok282:Mx.a7 Try.prog F 282 Mx.bN.m=true:=by kernel_rfl
theorem ok283:Mx.a7 Try.prog F 283 Mx.cy.m=true:=by kernel_rfl
theorem ok244:Mx.a7 Try.prog F 244 Mx.aM.m=true:=by kernel_rfl
theorem ok113:Mx.a7 Try.prog F 113 Mx.dr.m=true:=by kernel_rfl
theorem ok188:Mx.a7 Try.prog F 188 Mx.dq.m=true:=by kernel_rfl
theorem ok195:Mx.a7 Try.prog F 195 Mx.bn.m=true:=by kernel_rfl
theorem ok284:Mx.a7 Try.prog F 284 Mx.cZ.m=true:=by kernel_rfl
theorem ok285:Mx.a7 Try.prog F 285 Mx.dC.m=true:=by kernel_rfl
theorem ok304:Mx.a7 Try.prog F 304 Mx.aV.m=true:=by kernel_rfl
theorem ok316:Mx.a7 Try.prog F 316 Mx.aK.m=true:=by kernel_rfl
theorem ok305:Mx.a7 Try.prog F 305 Mx.bq.m=true:=by kernel_rfl
theorem ok317:Mx.a7 Try.prog F 317 Mx.aB.m=true:=by kernel_rfl
theorem ok325:Mx.a7 Try.prog F 325 Mx.bw.m=true:=by kernel_rfl
theorem ok318:Mx.a7 Try.prog F 318 Mx.aZ.m=true:=by kernel_rfl
theorem ok303:Mx.a7 Try.prog F 303 Mx.bo.m=true:=by kernel_rfl
theorem ok306:Mx.a7 Try.prog F 306 Mx.bS.m=true:=by kernel_rfl
theorem ok286:Mx.a7 Try.prog F 286 Mx.aG.m=true:=by kernel_rfl
theorem ok247:Mx.a7 Try.prog F 247 Mx.dg.m=true:=by kernel_rfl
theorem ok197:Mx.a7 Try.prog F 197 Mx.a0.m=true:=by kernel_rfl
theorem ok198:Mx.a7 Try.prog F 198 Mx.cF.m=true:=by kernel_rfl
theorem ok94:Mx.a7 Try.prog F 94 Mx.bO.m=true:=by kernel_rfl
theorem ok307:Mx.a7 Try.prog F 307 Mx.aO.m=true:=by kernel_rfl
theorem ok308:Mx.a7 Try.prog F 308 Mx.a8.m=true:=by kernel_rfl
theorem ok319:Mx.a7 Try.prog F 319 Mx.a_.m=true:=by kernel_rfl
theorem ok320:Mx.a7 Try.prog F 320 Mx.cU.m=true:=by kernel_rfl
theorem ok309:Mx.a7 Try.prog F 309 Mx.aY.m=true:=by kernel_rfl
theorem ok321:Mx.a7 Try.prog F 321 Mx.bL.m=true:=by kernel_rfl
theorem ok326:Mx.a7 Try.prog F 326 Mx.aT.m=true:=by kernel_rfl
theorem ok322:Mx.a7 Try.prog F 322 Mx.aS.m=true:=by kernel_rfl
theorem ok327:Mx.a7 Try.prog F 327 Mx.cD.m=true:=by kernel_rfl
theorem ok323:Mx.a7 Try.prog F 323 Mx.bU.m=true:=by kernel_rfl
theorem ok328:Mx.a7 Try.prog F 328 Mx.cu.m=true:=by kernel_rfl
theorem ok324:Mx.a7 Try.prog F 324 Mx.bF.m=true:=by kernel_rfl
theorem ok310:Mx.a7 Try.prog F 310 Mx.aw.m=true:=by kernel_rfl
theorem ok311:Mx.a7 Try.prog F 311 Mx.bQ.m=true:=by kernel_rfl
theorem ok287:Mx.a7 Try.prog F 287 Mx.av.m=true:=by kernel_rfl
theorem ok245:Mx.a7 Try.prog F 245 Mx.aR.m=true:=by kernel_rfl
theorem ok189:Mx.a7 Try.prog F 189 Mx.bt.m=true:=by kernel_rfl
theorem ok92:Mx.a7 Try.prog F 92 Mx.du.m=true:=by kernel_rfl
theorem ok200:Mx.a7 Try.prog F 200 Mx.aF.m=true:=by kernel_rfl
theorem ok199:Mx.a7 Try.prog F 199 Mx.dL.m=true:=by kernel_rfl
theorem ok95:Mx.a7 Try.prog F 95 Mx.ec.m=true:=by kernel_rfl
theorem ok128:Mx.a7 Try.prog F 128 Mx.bM.m=true:=by kernel_rfl
theorem ok134:Mx.a7 Try.prog F 134 Mx.dv.m=true:=by kernel_rfl
theorem ok190:Mx.a7 Try.prog F 190 Mx.cR.m=true:=by kernel_rfl
theorem ok191:Mx.a7 Try.prog F 191 Mx.dI.m=true:=by kernel_rfl
theorem ok192:Mx.a7 Try.prog F 192 Mx.dh.m=true:=by kernel_rfl
theorem ok234:Mx.a7 Try.prog F 234 Mx.a6.m=true:=by kernel_rfl
theorem ok156:Mx.a7 Try.prog F 156 Mx.bd.m=true:=by kernel_rfl
theorem ok246:Mx.a7 Try.prog F 246 Mx.aQ.m=true:=by kernel_rfl
theorem ok194:Mx.a7 Try.prog F 194 Mx.bf.m=true:=by kernel_rfl
theorem ok193:Mx.a7 Try.prog F 193 Mx.ee.m=true:=by kernel_rfl
theorem ok93:Mx.a7 Try.prog F 93 Mx.cj.m=true:=by kernel_rfl
theorem ok158:Mx.a7 Try.prog F 158 Mx.cH.m=true:=by kernel_rfl
theorem ok96:Mx.a7 Try.prog F 96 Mx.cQ.m=true:=by kernel_rfl
theorem ok97:Mx.a7 Try.prog F 97 Mx.c_.m=true:=by kernel_rfl
theorem ok525:Mx.a7 Try.prog F 525 Mx.cI.m=true:=by kernel_rfl
set_option maxHeartbeats 4000000 in
set_option maxRecDepth 100000 in
theorem table:Mx.lk Try.prog F M:=by
 refine Mx.sK ?_
 ·simp only[tab,List.forall_mem_cons];exact⟨ok36,ok124,ok131,ok125,ok175,ok185,ok241,ok238,ok180,ok219,ok91,ok98,ok183,ok276,ok242,ok187,ok90,ok186,ok132,ok88,ok226,ok227,ok149,ok196,ok300,ok301,ok278,ok181,ok81,ok302,ok279,ok174,ok277,ok243,ok184,ok84,ok280,ok133,ok86,ok281,ok282,ok283,ok244,ok113,ok188,ok195,ok284,ok285,ok304,ok316,ok305,ok317,ok325,ok318,ok303,ok306,ok286,ok247,ok197,ok198,ok94,ok307,ok308,ok319,ok320,ok309,ok321,ok326,ok322,ok327,ok323,ok328,ok324,ok310,ok311,ok287,ok245,ok189,ok92,ok200,ok199,ok95,ok128,ok134,ok190,ok191,ok192,ok234,ok156,ok246,ok194,ok193,ok93,ok158,ok96,ok97,ok525,by simp⟩
theorem k36:Mx.eW.k M:=rfl
theorem k124:Mx.cV.k M:=rfl
theorem k131:Mx.cP.k M:=rfl
theorem k125:Mx.a4.k M:=⟨rfl,k131⟩
theorem k175:Mx.dc.k M:=⟨rfl,k125⟩
theorem k185:Mx.cG.k M:=⟨rfl,k125⟩
theorem k241:Mx.dp.k M:=rfl
theorem k238:Mx.dK.k M:=⟨rfl,k241⟩
theorem k180:Mx.bD.k M:=⟨rfl,k238⟩
theorem k219:Mx.bz.k M:=⟨rfl,k180⟩
theorem k91:Mx.aX.k M:=rfl
theorem k98:Mx.bh.k M:=rfl
theorem k183:Mx.de.k M:=⟨rfl,k98⟩
theorem k276:Mx.dT.k M:=⟨rfl,k98,k183⟩
theorem k242:Mx.bZ.k M:=⟨rfl,k276⟩
theorem k187:Mx.cM.k M:=⟨rfl,k98,k242⟩
theorem k90:Mx.cC.k M:=⟨rfl,k98⟩
theorem k186:Mx.bu.k M:=⟨rfl,k98⟩
theorem k132:Mx.bC.k M:=rfl
theorem k88:Mx.aU.k M:=⟨rfl,k90,k91,k98,k132,k183,k186,k187⟩
theorem k226:Mx.bg.k M:=rfl
theorem k227:Mx.a9.k M:=rfl
theorem k149:Mx.aC.k M:=⟨rfl,k88,k98,k132,k186,k226,k227⟩
theorem k196:Mx.bJ.k M:=rfl
theorem k300:Mx.cw.k M:=⟨rfl,k91,k132,k196⟩
theorem k301:Mx.ca.k M:=rfl
theorem k278:Mx.ba.k M:=⟨rfl,k149,k180,k219,k226,k300,k301⟩
theorem k181:Mx.cW.k M:=rfl
theorem k81:Mx.cd.k M:=⟨rfl,k88,k91,k98,k132,k180,k181⟩
theorem k302:Mx.ch.k M:=⟨rfl,k149,k219⟩
theorem k279:Mx.cv.k M:=⟨rfl,k81,k149,k196,k219,k300,k301,k302⟩
theorem k174:Mx.dD.k M:=⟨rfl,k185⟩
theorem k277:Mx.eb.k M:=rfl
theorem k243:Mx.dU.k M:=⟨rfl,k276,k277⟩
theorem k184:Mx.bG.k M:=⟨rfl,k98,k241,k242,k243⟩
theorem k84:Mx.b_.k M:=⟨rfl,k88,k91,k98,k180,k183,k184⟩
theorem k280:Mx.cm.k M:=⟨rfl,k84,k149,k196,k219,k301,k302⟩
theorem k133:Mx.bX.k M:=rfl
theorem k86:Mx.bT.k M:=⟨rfl,k88,k91,k133,k180⟩
theorem k281:Mx.cn.k M:=⟨rfl,k86,k149,k196,k219⟩
theorem k282:Mx.bN.k M:=⟨rfl,k149,k196,k219,k226,k301⟩
theorem k283:Mx.cy.k M:=⟨rfl,k133,k149,k196,k219⟩
theorem k244:Mx.aM.k M:=⟨rfl,k125,k174,k175,k185,k278,k279,k280,k281,k282,k283⟩
theorem k113:Mx.dr.k M:=rfl
theorem k188:Mx.dq.k M:=⟨rfl,k113,k125,k244⟩
theorem k195:Mx.bn.k M:=rfl
theorem k284:Mx.cZ.k M:=rfl
theorem k285:Mx.dC.k M:=⟨rfl,k185⟩
theorem k304:Mx.aV.k M:=rfl
theorem k316:Mx.aK.k M:=⟨rfl,k304⟩
theorem k305:Mx.bq.k M:=⟨rfl,k304⟩
theorem k317:Mx.aB.k M:=⟨rfl,k304,k305⟩
theorem k325:Mx.bw.k M:=⟨rfl,k98⟩
theorem k318:Mx.aZ.k M:=⟨rfl,k304,k325⟩
theorem k303:Mx.bo.k M:=⟨rfl,k304,k316,k317,k318⟩
theorem k306:Mx.bS.k M:=rfl
theorem k286:Mx.aG.k M:=⟨rfl,k303,k304,k305,k306⟩
theorem k247:Mx.dg.k M:=rfl
theorem k197:Mx.a0.k M:=⟨rfl,k247⟩
theorem k198:Mx.cF.k M:=rfl
theorem k94:Mx.bO.k M:=⟨rfl,k91,k195,k196,k197,k198⟩
theorem k307:Mx.aO.k M:=rfl
theorem k308:Mx.a8.k M:=rfl
theorem k319:Mx.a_.k M:=rfl
theorem k320:Mx.cU.k M:=⟨rfl,k197⟩
theorem k309:Mx.aY.k M:=⟨rfl,k197,k198,k226,k319,k320⟩
theorem k321:Mx.bL.k M:=rfl
theorem k326:Mx.aT.k M:=rfl
theorem k322:Mx.aS.k M:=⟨rfl,k326⟩
theorem k327:Mx.cD.k M:=rfl
theorem k323:Mx.bU.k M:=⟨rfl,k327⟩
theorem k328:Mx.cu.k M:=⟨rfl,k197,k319⟩
theorem k324:Mx.bF.k M:=⟨rfl,k91,k197,k320,k321,k328⟩
theorem k310:Mx.aw.k M:=⟨rfl,k91,k94,k196,k321,k322,k323,k324⟩
theorem k311:Mx.bQ.k M:=⟨rfl,k226⟩
theorem k287:Mx.av.k M:=⟨rfl,k94,k195,k307,k308,k309,k310,k311⟩
theorem k245:Mx.aR.k M:=⟨rfl,k125,k175,k185,k284,k285,k286,k287⟩
theorem k189:Mx.bt.k M:=⟨rfl,k125,k195,k245⟩
theorem k92:Mx.du.k M:=⟨rfl,k124,k188,k189⟩
theorem k200:Mx.aF.k M:=rfl
theorem k199:Mx.dL.k M:=rfl
theorem k95:Mx.ec.k M:=⟨rfl,k199,k200⟩
theorem k128:Mx.bM.k M:=rfl
theorem k134:Mx.dv.k M:=rfl
theorem k190:Mx.cR.k M:=⟨rfl,k134⟩
theorem k191:Mx.dI.k M:=rfl
theorem k192:Mx.dh.k M:=rfl
theorem k234:Mx.a6.k M:=rfl
theorem k156:Mx.bd.k M:=⟨rfl,k234⟩
theorem k246:Mx.aQ.k M:=rfl
theorem k194:Mx.bf.k M:=⟨rfl,k246⟩
theorem k193:Mx.ee.k M:=⟨rfl,k156⟩
theorem k93:Mx.cj.k M:=⟨rfl,k95,k128,k156,k190,k191,k192,k193,k194⟩
theorem k158:Mx.cH.k M:=rfl
theorem k96:Mx.cQ.k M:=⟨rfl,k158⟩
theorem k97:Mx.c_.k M:=rfl
theorem k525:Mx.cI.k M:=⟨rfl,k36,k92,k93,k94,k95,k96,k97⟩
end Go.Proofs.Ytcihgbflbmhkbaa.fnViews
