/-
  Toward: at every input FnExactKeptOk returns true, and its arguments read as they did. No condition.
-/
import Derived.Test.YtolaaohibicllaaGreatRows
import Derived.Shelf.Sort.Plain
import Derived.Shelf.Slices.In.SortNone
import Derived.Shelf.Slices.CompactI
import Derived.Shelf.Spec.SlicesInsertGrow
import Derived.Test.YtolaaohibicllaaGreatMxKog
set_option linter.unusedSimpArgs false
set_option linter.unusedVariables false
namespace Go.Proofs.YtolaaohibicllaaGreat.fnExactKeptOk
open Go.ChangeShapes Go.WideShapes Go.ChangeAt Go.RowKit
set_option linter.unusedVariables false
def num:List (Nat×Nat):=[(108,25),(250,193),(208,155),(107,100),(17,50),(115,24),(29,9),(48,4),(98,11),(186,26),(132,29),(90,51),(183,52),(276,156),(242,101),(187,53),(91,54),(88,27),(226,28),(227,30),(149,10),(99,69),(221,104),(206,102),(202,121),(248,164),(201,122),(100,71),(10,103),(104,55),(12,31),(139,56),(140,57),(122,120),(34,70),(60,35),(167,115),(142,117),(141,160),(52,116),(75,66),(146,105),(58,58),(64,32),(448,12),(241,157),(238,106),(180,59),(219,33),(196,109),(300,107),(301,108),(278,60),(282,61),(133,110),(283,62),(181,158),(81,111),(302,112),(279,63),(277,195),(243,194),(184,159),(84,113),(280,64),(86,114),(281,65),(43,118),(474,161),(459,209),(460,210),(488,249),(472,239),(461,211),(22,212),(462,213),(439,196),(405,162),(247,214),(197,197),(475,163),(466,119),(446,68),(432,67),(468,34),(449,13),(113,14),(62,15),(434,5),(42,37),(109,123),(288,215),(251,198),(209,165),(110,124),(18,72),(117,36),(30,16),(49,6),(101,19),(230,148),(231,127),(207,125),(249,191),(203,152),(236,166),(168,126),(105,73),(13,38),(152,74),(153,75),(147,77),(89,78),(165,40),(234,84),(156,43),(164,79),(272,167),(235,129),(166,80),(161,130),(160,131),(72,81),(74,41),(200,82),(271,83),(228,42),(229,44),(150,18),(169,143),(170,145),(222,177),(223,178),(143,144),(76,93),(148,128),(59,76),(65,39),(450,17),(134,86),(239,199),(233,168),(155,132),(270,85),(220,45),(413,133),(431,135),(441,136),(409,87),(199,171),(95,137),(411,88),(442,138),(163,139),(412,89),(157,174),(70,140),(410,90),(275,204),(240,203),(182,175),(83,141),(428,91),(162,176),(73,142),(429,92),(44,146),(477,180),(476,179),(485,251),(470,246),(452,228),(20,229),(453,230),(454,231),(486,252),(471,247),(455,232),(457,186),(456,233),(23,234),(458,235),(437,205),(401,181),(478,182),(479,183),(492,236),(490,206),(480,184),(481,185),(482,187),(483,188),(128,207),(484,189),(467,147),(447,95),(433,94),(469,46),(451,20),(114,21),(151,96),(205,190),(102,149),(213,150),(123,97),(204,151),(103,98),(61,47),(63,22),(435,7),(45,49),(111,153),(289,238),(252,208),(210,192),(112,154),(21,99),(121,48),(33,23),(26,8),(399,3),(440,134),(135,172),(136,173),(487,253),(493,237)]
def tab:List (Nat×Mx.Fn):=[(108,Mx.gP.m),(250,Mx.kE.m),(208,Mx.gM.m),(107,Mx.jh.m),(17,Mx.ie.m),(115,Mx.jO.m),(29,Mx.gm.m),(48,Mx.gN.m),(98,Mx.bE.m),(186,Mx.cq.m),(132,Mx.bf.m),(90,Mx.dI.m),(183,Mx.gi.m),(276,Mx.iX.m),(242,Mx.dw.m),(187,Mx.dJ.m),(91,Mx.bI.m),(88,Mx.br.m),(226,Mx.cv.m),(227,Mx.bO.m),(149,Mx.aJ.m),(99,Mx.bD.m),(221,Mx.b_.m),(206,Mx.cW.m),(202,Mx.gU.m),(248,Mx.cC.m),(201,Mx.jo.m),(100,Mx.gL.m),(10,Mx.fm.m),(104,Mx.eC.m),(12,Mx.cS.m),(139,Mx.b9.m),(140,Mx.fM.m),(122,Mx.eh.m),(34,Mx.df.m),(60,Mx.b6.m),(167,Mx.eO.m),(142,Mx.dR.m),(141,Mx.dj.m),(52,Mx.bK.m),(75,Mx.bh.m),(146,Mx.eW.m),(58,Mx.aV.m),(64,Mx.ee.m),(448,Mx.cu.m),(241,Mx.gT.m),(238,Mx.fD.m),(180,Mx.bX.m),(219,Mx.b5.m),(196,Mx.dk.m),(300,Mx.eD.m),(301,Mx.dH.m),(278,Mx.bY.m),(282,Mx.cV.m),(133,Mx.bU.m),(283,Mx.eY.m),(181,Mx.fW.m),(81,Mx.dS.m),(302,Mx.dW.m),(279,Mx.eX.m),(277,Mx.hQ.m),(243,Mx.iY.m),(184,Mx.cE.m),(84,Mx.dD.m),(280,Mx.eP.m),(86,Mx.de.m),(281,Mx.eQ.m),(43,Mx.aT.m),(474,Mx.fU.m),(459,Mx.gS.m),(460,Mx.db.m),(488,Mx.gk.m),(472,Mx.dK.m),(461,Mx.fq.m),(22,Mx.dC.m),(462,Mx.cK.m),(439,Mx.cP.m),(405,Mx.eE.m),(247,Mx.gC.m),(197,Mx.cQ.m),(475,Mx.cr.m),(466,Mx.aW.m),(446,Mx.bH.m),(432,Mx.fb.m),(468,Mx.cL.m),(449,Mx.hZ.m),(113,Mx.ik.m),(62,Mx.fR.m),(434,Mx.gu.m),(42,Mx.i_.m),(109,Mx.gW.m),(288,Mx.jZ.m),(251,Mx.jM.m),(209,Mx.jx.m),(110,Mx.jg.m),(18,Mx.j0.m),(117,Mx.jN.m),(30,Mx.iO.m),(49,Mx.jy.m),(101,Mx.bP.m),(230,Mx.cJ.m),(231,Mx.cd.m),(207,Mx.cY.m),(249,Mx.cD.m),(203,Mx.ju.m),(236,Mx.gQ.m),(168,Mx.eS.m),(105,Mx.du.m),(13,Mx.cT.m),(152,Mx.bL.m),(153,Mx.dX.m),(147,Mx.gg.m),(89,Mx.dP.m),(165,Mx.dg.m),(234,Mx.bJ.m),(156,Mx.aI.m),(164,Mx.gn.m),(272,Mx.ja.m),(235,Mx.dx.m),(166,Mx.eK.m),(161,Mx.az.m),(160,Mx.gw.m),(72,Mx.cy.m),(74,Mx.bC.m),(200,Mx.ay.m),(271,Mx.fp.m),(228,Mx.dG.m),(229,Mx.cG.m),(150,Mx.aK.m),(169,Mx.dL.m),(170,Mx.dp.m),(222,Mx.fo.m),(223,Mx.dM.m),(143,Mx.dq.m),(76,Mx.bB.m),(148,Mx.fF.m),(59,Mx.aN.m),(65,Mx.eT.m),(450,Mx.fG.m),(134,Mx.eR.m),(239,Mx.gv.m),(233,Mx.ei.m),(155,Mx.cm.m),(270,Mx.eG.m),(220,Mx.bW.m),(413,Mx.fy.m),(431,Mx.dO.m),(441,Mx.fY.m),(409,Mx.cU.m),(199,Mx.iR.m),(95,Mx.gA.m),(411,Mx.dN.m),(442,Mx.bc.m),(163,Mx.jr.m),(412,Mx.fI.m),(157,Mx.fZ.m),(70,Mx.dU.m),(410,Mx.fa.m),(275,Mx.fV.m),(240,Mx.jc.m),(182,Mx.cF.m),(83,Mx.dF.m),(428,Mx.eU.m),(162,Mx.aX.m),(73,Mx.fH.m),(429,Mx.eV.m),(44,Mx.fv.m),(477,Mx.eH.m),(476,Mx.eI.m),(485,Mx.gZ.m),(470,Mx.dQ.m),(452,Mx.fu.m),(20,Mx.jd.m),(453,Mx.aC.m),(454,Mx.gI.m),(486,Mx.ao.m),(471,Mx.aM.m),(455,Mx.aU.m),(457,Mx.eZ.m),(456,Mx.gH.m),(23,Mx.dE.m),(458,Mx.gG.m),(437,Mx.bR.m),(401,Mx.gE.m),(478,Mx.aF.m),(479,Mx.fj.m),(492,Mx.ar.m),(490,Mx.aP.m),(480,Mx.aZ.m),(481,Mx.fi.m),(482,Mx.bd.m),(483,Mx.fh.m),(128,Mx.dh.m),(484,Mx.cB.m),(467,Mx.bp.m),(447,Mx.bz.m),(433,Mx.fe.m),(469,Mx.cM.m),(451,Mx.ig.m),(114,Mx.il.m),(151,Mx.fE.m),(205,Mx.fS.m),(102,Mx.jq.m),(213,Mx.ep.m),(123,Mx.e_.m),(204,Mx.kK.m),(103,Mx.iJ.m),(61,Mx.cX.m),(63,Mx.gD.m),(435,Mx.iv.m),(45,Mx.fN.m),(111,Mx.gX.m),(289,Mx.j1.m),(252,Mx.jP.m),(210,Mx.jz.m),(112,Mx.ji.m),(21,Mx.j2.m),(121,Mx.jQ.m),(33,Mx.iP.m),(26,Mx.jA.m),(399,Mx.cH.m)]
def F:Nat→FuncId:=Mx.Mv num
def exts:List (Nat×(List Mx.V→List (Nat×Mx.Ob)→Option (Mx.V×List (Nat×Mx.Ob)))):=[(440,Mx.B9),(135,Mx.vg),(136,Mx.oF)]
def M:Nat→Option Mx.Body:=Mx.Jx tab exts
def rho20:Go.Shelf.Ren:={f:=fun n=>if n=20 then 173 else n,t:=fun n=>if n=22 then 23 else n,g:=fun n=>n}
theorem lays20:Go.Proofs.Lays2.n20 Tryz.prog rho20 where
 mixed:=by kernel_rfl
 f20:=Tryz.func173.trans (congrArg some (by kernel_rfl))
 t0:=by kernel_rfl
 a0:=fun w=>by kernel_rfl
 z0:=fun w=>by kernel_rfl
 v0:=fun w=>by kernel_rfl
 t3:=by kernel_rfl
 a3:=fun w=>by kernel_rfl
 z3:=fun w=>by kernel_rfl
 v3:=fun w=>by kernel_rfl
 t4:=by kernel_rfl
 a4:=fun w=>by kernel_rfl
 z4:=fun w=>by kernel_rfl
 v4:=fun w=>by kernel_rfl
 t22:=by kernel_rfl
 a22:=fun w=>by kernel_rfl
 z22:=fun w=>by kernel_rfl
 v22:=fun w=>by kernel_rfl
 i3:=by kernel_rfl
def rho189:Go.Shelf.Ren:={f:=fun n=>if n=189 then 172 else if n=125 then 202 else if n=257 then 201 else if n=128 then 226 else if n=129 then 227 else if n=294 then 217 else if n=295 then 218 else if n=296 then 219 else if n=297 then 220 else if n=298 then 221 else if n=299 then 222 else if n=216 then 223 else if n=300 then 224 else if n=301 then 225 else if n=328 then 240 else if n=329 then 241 else if n=330 then 242 else if n=331 then 243 else if n=332 then 244 else if n=215 then 245 else if n=343 then 250 else n,t:=fun n=>if n=28 then 23 else if n=46 then 171 else if n=51 then 143 else if n=53 then 215 else if n=183 then 206 else if n=182 then 205 else if n=131 then 211 else if n=218 then 223 else if n=222 then 227 else if n=228 then 231 else if n=229 then 232 else n,g:=fun n=>n}
theorem lays189:Go.Proofs.Lays.n189 Tryz.prog rho189 where
 mixed:=by kernel_rfl
 f125:=Tryz.func202.trans (congrArg some (by kernel_rfl))
 f128:=Tryz.func226.trans (congrArg some (by kernel_rfl))
 f129:=Tryz.func227.trans (congrArg some (by kernel_rfl))
 f189:=Tryz.func172.trans (congrArg some (by kernel_rfl))
 f215:=Tryz.func245.trans (congrArg some (by kernel_rfl))
 f216:=Tryz.func223.trans (congrArg some (by kernel_rfl))
 f257:=Tryz.func201.trans (congrArg some (by kernel_rfl))
 f294:=Tryz.func217.trans (congrArg some (by kernel_rfl))
 f295:=Tryz.func218.trans (congrArg some (by kernel_rfl))
 f296:=Tryz.func219.trans (congrArg some (by kernel_rfl))
 f297:=Tryz.func220.trans (congrArg some (by kernel_rfl))
 f298:=Tryz.func221.trans (congrArg some (by kernel_rfl))
 f299:=Tryz.func222.trans (congrArg some (by kernel_rfl))
 f300:=Tryz.func224.trans (congrArg some (by kernel_rfl))
 f301:=Tryz.func225.trans (congrArg some (by kernel_rfl))
 f328:=Tryz.func240.trans (congrArg some (by kernel_rfl))
 f329:=Tryz.func241.trans (congrArg some (by kernel_rfl))
 f330:=Tryz.func242.trans (congrArg some (by kernel_rfl))
 f331:=Tryz.func243.trans (congrArg some (by kernel_rfl))
 f332:=Tryz.func244.trans (congrArg some (by kernel_rfl))
 f343:=Tryz.func250.trans (congrArg some (by kernel_rfl))
 t0:=by kernel_rfl
 a0:=fun w=>by kernel_rfl
 z0:=fun w=>by kernel_rfl
 v0:=fun w=>by kernel_rfl
 t3:=by kernel_rfl
 a3:=fun w=>by kernel_rfl
 z3:=fun w=>by kernel_rfl
 v3:=fun w=>by kernel_rfl
 t4:=by kernel_rfl
 a4:=fun w=>by kernel_rfl
 z4:=fun w=>by kernel_rfl
 v4:=fun w=>by kernel_rfl
 t5:=by kernel_rfl
 a5:=fun w=>by kernel_rfl
 z5:=fun w=>by kernel_rfl
 v5:=fun w=>by kernel_rfl
 t9:=by kernel_rfl
 a9:=fun w=>by kernel_rfl
 z9:=fun w=>by kernel_rfl
 v9:=fun w=>by kernel_rfl
 t28:=by kernel_rfl
 a28:=fun w=>by kernel_rfl
 z28:=fun w=>by kernel_rfl
 v28:=fun w=>by kernel_rfl
 t46:=by kernel_rfl
 a46:=fun w=>by kernel_rfl
 z46:=fun w=>by kernel_rfl
 v46:=fun w=>by kernel_rfl
 t51:=by kernel_rfl
 a51:=fun w=>by kernel_rfl
 z51:=fun w=>by kernel_rfl
 v51:=fun w=>by kernel_rfl
 t53:=by kernel_rfl
 a53:=fun w=>by kernel_rfl
 z53:=fun w=>by kernel_rfl
 v53:=fun w=>by kernel_rfl
 t131:=by kernel_rfl
 a131:=fun w=>by kernel_rfl
 z131:=fun w=>by kernel_rfl
 v131:=fun w=>by kernel_rfl
 t182:=by kernel_rfl
 a182:=fun w=>by kernel_rfl
 z182:=fun w=>by kernel_rfl
 v182:=fun w=>by kernel_rfl
 t183:=by kernel_rfl
 a183:=fun w=>by kernel_rfl
 z183:=fun w=>by kernel_rfl
 v183:=fun w=>by kernel_rfl
 t218:=by kernel_rfl
 a218:=fun w=>by kernel_rfl
 z218:=fun w=>by kernel_rfl
 v218:=fun w=>by kernel_rfl
 t222:=by kernel_rfl
 a222:=fun w=>by kernel_rfl
 z222:=fun w=>by kernel_rfl
 v222:=fun w=>by kernel_rfl
 t228:=by kernel_rfl
 a228:=fun w=>by kernel_rfl
 z228:=fun w=>by kernel_rfl
 v228:=fun w=>by kernel_rfl
 t229:=by kernel_rfl
 a229:=fun w=>by kernel_rfl
 z229:=fun w=>by kernel_rfl
 v229:=fun w=>by kernel_rfl
theorem ext135:Mx.vS Tryz.prog F 135 Mx.vg:=
 Mx.F5 (by kernel_rfl) (fun p cap w=>Go.Proofs.Any.slices_Sort_int_none lays189 p cap w) (fun kP off cap zs w h1 h2 h3=>Go.Proofs.Any.slices_Sort_int lays189 kP off cap zs w h1 h2 h3)
theorem ext136:Mx.vS Tryz.prog F 136 Mx.oF:=
 Mx.AV (by kernel_rfl) (fun p cap w=>Go.Proofs.Any.slices_Compact_int_empty lays20 p cap w) (fun kP off cap zs w h1 h2 h3=>Go.Proofs.Any.slices_Compact_int lays20 kP off cap zs w h1 h2 h3) Mx.AZ
section
open Go.Shelf Go.RowKit Go.Lib Go.Proofs
theorem run_copy_cellsK{P:Program}(w:World)(dT sT ty elem:TypeId)(k:Nat)(b o dLen dCap:Nat)(a:Addr)(sLen sCap:Nat)(cs:List Value)
  (hu:P.underlying dT=some (.slice elem)) (hs:(P.info? elem).map (·.size)=some k) (hn:cs.length=Nat.min sLen dLen*k)
  (hsrc:∀j v,cs[j]? =some v→w.cell? (a.add j)=some v) (hc:∀j,j<cs.length→(w.cell? ⟨b,o+j,none⟩).isSome=true) (hf:∀j,j<cs.length→w.frozen? ⟨b,o+j,none⟩=false) (h1:∀v∈cs,v.oneCell'=true):
  (Builtin.copy_ #[dT,sT] ty #[.slice (some ⟨b,o,none⟩) dLen dCap,.slice (some a) sLen sCap]).run P w= .ok (goInt (Nat.min sLen dLen)) (w.setCells b o cs):=by
 have hl:=run_loadCells_list (P:=P) w a cs hsrc;have hst:=run_storeCells_cells (P:=P) b o cs 0 w (by simpa using hc) (by simpa using hf) h1;cases hq:P.info? elem with
 |none=>simp[hq] at hs
 |some i=>
  have hi:i.size=k:=by simpa [hq] using hs
  rw[hn] at hl;simp[Builtin.copy_,run_underlying hu,Builtin.lenOf,Builtin.firstCells,sizeOf,typeInfo,hq,hi,hl,hst]
theorem t24:Tryz.prog.underlying 30=some (.slice 56):=by kernel_rfl
theorem t3:Tryz.prog.underlying 3=some (.int .i64):=by kernel_rfl
theorem t4:Tryz.prog.underlying 4=some .bool:=by kernel_rfl
theorem a24(w:World):(isAgg 30).run Tryz.prog w= .ok false w:=by kernel_rfl
theorem a3(w:World):(isAgg 3).run Tryz.prog w= .ok false w:=by kernel_rfl
theorem a4(w:World):(isAgg 4).run Tryz.prog w= .ok false w:=by kernel_rfl
theorem z56(w:World):(Go.sizeOf 56).run Tryz.prog w= .ok 7 w:=by kernel_rfl
theorem z24(w:World):(Go.sizeOf 30).run Tryz.prog w= .ok 1 w:=by kernel_rfl
theorem z3(w:World):(Go.sizeOf 3).run Tryz.prog w= .ok 1 w:=by kernel_rfl
theorem v24(w:World):(zeroValue 30).run Tryz.prog w= .ok (.slice none 0 0) w:=by kernel_rfl
theorem v3(w:World):(zeroValue 3).run Tryz.prog w= .ok (.int .i64 0) w:=by kernel_rfl
theorem sz56:(Tryz.prog.info? 56).map (·.size)=some 7:=by kernel_rfl
theorem mixed:Tryz.prog.follows .mixedOrders=true:=by kernel_rfl
set_option maxHeartbeats 4000000 in
set_option maxRecDepth 100000 in
theorem ins_shift(b n c i vb vc:Nat)(cs vs:List Value)(w:World)(hi:i<n)(hroom:n+1≤c)(hbn:n≤1048576)(hvb:vb≠b)
  (hcl:cs.length=n*7) (hvl:vs.length=7)
  (hcs:∀j v,cs[j]? =some v→w.cell? ⟨b,j,none⟩=some v) (hsp:∀j,j<(n+1)*7→(w.cell? ⟨b,j,none⟩).isSome=true) (hfz:∀j,j<(n+1)*7→w.frozen? ⟨b,j,none⟩=false)
  (hvs:∀j v,vs[j]? =some v→w.cell? ⟨vb,j,none⟩=some v) (h1c:∀v∈cs,v.oneCell'=true) (h1v:∀v∈vs,v.oneCell'=true)
  (tA tB:TypeId) (kA kB:Nat) (hsa:w.shape? vb=some (tA,kA)) (hsb:w.shape? b=some (tB,kB)) (hkB:kB≠0) (hfa:w.frozen? ⟨vb,0,none⟩=false) (hfe:w.frozen? ⟨vb,kA,none⟩=false):
  Calls Tryz.prog 134 #[.slice (some ⟨b,0,none⟩) n c,.int .i64 i,.slice (some ⟨vb,0,none⟩) 1 vc] w fun e w'=>
   e= .returned (.slice (some ⟨b,0,none⟩) (n+1) c)∧w'=(w.drew.setCells b ((i+1)*7) (cs.drop (i*7))).setCells b (i*7) vs:=by
 have u3:=run_underlying t3;have u4:=run_underlying t4;have u24:=run_underlying t24;have t24:=t24;have a24:=a24;have a3:=a3;have a4:=a4;have z56:=z56;have z24:=z24;have z3:=z3;have v24:=v24;have v3:=v3;have mixed:=mixed;have hz2:¬((i:Int)=(n:Int)):=by omega
 have hov:∀lb cb,(callFunc 169 #[.slice (some ⟨vb,0,none⟩) 1 vc,.slice (some ⟨b,(i+1)*7,none⟩) lb cb]).run Tryz.prog w= .ok (.value (.bool false)) w:=fun lb cb=>by
  rw[run_callFunc_extern Tryz.func169 (by kernel_rfl) (by kernel_rfl) (by kernel_rfl) (e:=Extern.SlicesOverlaps.overlaps #[30,30] #[4]) (by kernel_rfl),
   Lib.run_overlaps_apart w 30 4 56 t24 7 z56 ⟨vb,0,none⟩ ⟨b,(i+1)*7,none⟩ 1 vc lb cb hvb tA tB kA kB hsa hsb hkB hfa hfe]
  rfl
 have hdl:(cs.drop (i*7)).length=(n-i)*7:=by rw[List.length_drop,hcl];omega
 have hw1:IntKind.i64.wrap ((i:Int)+1)=(i:Int)+1:=by rw[IntKind.wrap_i64];omega
 have hb1:(0:Int)≤(i:Int)+1:=by omega
 have hin:i≤n:=by omega
 have htn:((i:Int)+1).toNat=i+1:=by omega
 have hb2:¬(c=i+1):=by omega
 have hb3:(i:Int)≤(n:Int)+1:=by omega
 have hb4:¬(c=i):=by omega
 have hcp1:∀ty dc sc,(Builtin.copy_ #[30,30] ty #[.slice (some ⟨b,(i+1)*7,none⟩) (n-i) dc,.slice (some ⟨b,i*7,none⟩) (n+1-i) sc]).run Tryz.prog w.drew= .ok (goInt (Nat.min (n+1-i) (n-i))) (w.drew.setCells b ((i+1)*7) (cs.drop (i*7))):=fun ty dc sc=>
  run_copy_cellsK w.drew _ _ ty 56 7 b ((i+1)*7) (n-i) dc ⟨b,i*7,none⟩ (n+1-i) sc (cs.drop (i*7)) t24 sz56 (by rw[hdl];simp only[Nat.min_def];split<;>omega)
   (fun j v hj=>by rw[Addr.add_lit];exact hcs (i*7+j) v (by rwa [List.getElem?_drop] at hj))
   (fun j hj=>hsp _ (by omega)) (fun j hj=>hfz _ (by omega)) (fun v hv=>h1c v (List.mem_of_mem_drop hv))
 obtain⟨W1,hW1⟩:∃W1,W1=w.drew.setCells b ((i+1)*7) (cs.drop (i*7)):=⟨_,rfl⟩
 have hsp1:∀k,k<(n+1)*7→(W1.cell? ⟨b,k,none⟩).isSome=true:=fun k hk=>by
  rw[hW1];exact isSome_setCells b (cs.drop (i*7)) ((i+1)*7) w.drew (fun j hj=>hsp _ (by omega)) _ (hsp k hk)
 have hcp2:∀(W:World),(∀x,W.cell? x=W1.cell? x)→(∀x,W.frozen? x=W1.frozen? x)→∀ty dc,(Builtin.copy_ #[30,30] ty #[.slice (some ⟨b,i*7,none⟩) (n+1-i) dc,.slice (some ⟨vb,0,none⟩) 1 vc]).run Tryz.prog W= .ok (goInt (Nat.min 1 (n+1-i))) (W.setCells b (i*7) vs):=fun W hWc hWf ty dc=>
  run_copy_cellsK W _ _ ty 56 7 b (i*7) (n+1-i) dc ⟨vb,0,none⟩ 1 vc vs t24 sz56 (by rw[hvl];simp only[Nat.min_def];split<;>omega)
   (fun j v hj=>by
    rw[Addr.add_lit,hWc,hW1,World.cell?_setCells_out b _ _ _ _ (fun h _=>absurd h hvb),Nat.zero_add];exact hvs j v hj)
   (fun j hj=>by rw[hWc];exact hsp1 _ (by omega)) (fun j hj=>by rw[hWf,hW1,World.frozen?_setCells];exact hfz _ (by omega)) h1v
 rw[←hW1] at hcp1
 go_enter Tryz.func134,Tryz.ntmps134
 go_wp2_with (simp only[hov])
 go_region_law_o (refine step_copy_runI rfl _ _ 30 30 rfl _ _ (by simp[Act.eval,Act.put]) (by simp[Act.eval,Act.put]) (hcp1 _ _ _) ?_)
 go_wp2_with (at_builtin;refine wpList_copy_runI _ rfl _ _ 30 30 rfl _ _ rfl rfl (hcp2 _ (fun _=>rfl) (fun _=>rfl) _ _) ?_)
 go_ret
 first|exact⟨rfl,rfl⟩|exact⟨rfl,by rw[hW1]⟩
set_option maxHeartbeats 4000000 in
set_option maxRecDepth 100000 in
theorem ins_end(base:Option Addr)(n c vb vc:Nat)(w w1:World)(val:Value)(hbn:base=none→n=0)(hb0:∀a,base=some a→∃b,a=⟨b,0,none⟩)(hn:n≤c)
  (hrun:∀ty,(Builtin.append_ #[30,30] ty #[.slice base n c,.slice (some ⟨vb,0,none⟩) 1 vc]).run Tryz.prog w= .ok val w1):
  Calls Tryz.prog 134 #[.slice base n c,.int .i64 n,.slice (some ⟨vb,0,none⟩) 1 vc] w fun e w'=>e= .returned val∧w'=w1:=by
 have u3:=run_underlying t3;have u4:=run_underlying t4;have u24:=run_underlying t24;have t24:=t24;have a24:=a24;have a3:=a3;have a4:=a4;have z56:=z56;have z24:=z24;have z3:=z3;have v24:=v24;have v3:=v3;have mixed:=mixed
 go_enter Tryz.func134,Tryz.ntmps134
 cases base with
 |none=>
  have h0:=hbn rfl;subst h0
  go_wp2_with (at_builtin;refine Lib.wpList_append_run _ rfl _ _ _ _ rfl _ _ rfl rfl _ _ (hrun _) ?_)
  go_ret
  exact⟨rfl,rfl⟩
 |some a=>
  obtain⟨b,rfl⟩:=hb0 a rfl
  go_wp2_with (at_builtin;refine Lib.wpList_append_run _ rfl _ _ _ _ rfl _ _ rfl rfl _ _ (hrun _) ?_)
  all_goals (go_ret;exact⟨rfl,rfl⟩)
theorem info56:∃i z,Tryz.prog.info? 56=some i∧i.zero=some z∧i.size=7∧i.bytes≤4096∧z.cells.size=7:=by
 have h:(match Tryz.prog.info? 56 with|some i=>(match i.zero with|some z=>i.size==7&&decide (i.bytes≤4096)&&z.cells.size==7|none=>false)|none=>false)=true:=by kernel_rfl
 split at h
 ·rename_i i hi;split at h
  ·rename_i z hz;simp only[Bool.and_eq_true,beq_iff_eq,decide_eq_true_eq] at h;exact⟨i,z,hi,hz,h.1.1,h.1.2,h.2⟩
  ·cases h
 ·cases h
set_option maxHeartbeats 4000000 in
set_option maxRecDepth 100000 in
theorem ins_grow(b n c i vb vc:Nat)(cs vs:List Value)(w:World)(hi:i<n)(hnc:n≤c)(hroom:c<n+1)(hbig:n≤1048576)
  (hcl:cs.length=n*7) (hvl:vs.length=7)
  (hcs:∀j v,cs[j]? =some v→w.cell? ⟨b,j,none⟩=some v)
  (hvs:∀j v,vs[j]? =some v→w.cell? ⟨vb,j,none⟩=some v) (h1c:∀v∈cs,v.oneCell'=true) (h1v:∀v∈vs,v.oneCell'=true):
  Calls Tryz.prog 134 #[.slice (some ⟨b,0,none⟩) n c,.int .i64 i,.slice (some ⟨vb,0,none⟩) 1 vc] w fun e w'=>
   ∃(G:Nat) (row:Array Value),n+1≤G∧row.size=G*7∧e= .returned (.slice (some ⟨w.heap.size,0,none⟩) (n+1) G)∧(∀j,j<i*7→row[j]? =cs[j]?)∧
   w'=(((w.alloc (.cells row 56)).drew.setCells w.heap.size (i*7) vs).drew).setCells w.heap.size ((i+1)*7) (cs.drop (i*7)):=by
 have u3:=run_underlying t3;have u4:=run_underlying t4;have u24:=run_underlying t24;have t3:=t3;have t24:=t24;have a24:=a24;have a3:=a3;have a4:=a4;have z56:=z56;have z24:=z24;have z3:=z3;have v24:=v24;have v3:=v3;have mixed:=mixed;obtain⟨i0,z0,hi0,hz0,hzs,hzb,hzc⟩:=info56;have hz2:¬((i:Int)=(n:Int)):=by omega
 have hz3:(c:Int)<(n:Int)+1:=by omega
 have hbw:b<w.heap.size:=block_lt_of_cell (hcs 0 _ (List.getElem?_eq_getElem (by omega)));have hvw:vb<w.heap.size:=block_lt_of_cell (hvs 0 _ (List.getElem?_eq_getElem (by omega)));have hkk:(n:Int)+1-(i:Int)=((n+1-i:Nat):Int):=by omega
 have hik:i+(n+1-i)=n+1:=by omega
 have htl:(cs.take (i*7)).length=i*7:=by rw[List.length_take,hcl];omega
 have hold:(Builtin.firstCells i0.size i (.slice (some ⟨b,0,none⟩) i c)).run Tryz.prog w.drew= .ok (cs.take (i*7)).toArray w.drew:=by
  rw[hzs];exact run_firstCells_some w.drew 7 i ⟨b,0,none⟩ i c (cs.take (i*7)) (by rw[htl]) (fun j v hj=>by
   rw[Addr.add_lit,Nat.zero_add];rw[List.getElem?_take] at hj;split at hj
   ·exact hcs j v hj
   ·cases hj)
 have hfit:Builtin.nextslicecap (n+1) c*i0.bytes≤281474976710656:=by
  refine growslice_fits hroom ?_
  calc (n+1)*i0.bytes≤1048577*4096:=Nat.mul_le_mul (by omega) hzb
   _≤140737488355328:=by decide
 have hrz:∀ty,(Builtin.append_ #[30,3] ty #[.slice (some ⟨b,0,none⟩) i c,.int .i64 ((n:Int)+1-(i:Int))]).run Tryz.prog w=
   .ok (.slice (some ⟨w.heap.size,0,none⟩) (n+1) (grownCap w (n+1) c 56)) (w.drew.alloc (.cells ((cs.take (i*7)).toArray++Builtin.zeroCells z0.cells (n+1-i)++Builtin.zeroCells z0.cells (grownCap w (n+1) c 56-(n+1))) 56)):=fun ty=>by
  have h:=Lib.run_append_grow_zeros w 30 3 ty 56 i0 _ .i64 .i64 t24 t3 hi0 hz0 (some ⟨b,0,none⟩) i c (cs.take (i*7)) hold (n+1-i) (by omega) (by omega) (by omega) (by omega) (by
   calc (n+1-i)*i0.bytes≤1048577*4096:=Nat.mul_le_mul (by omega) hzb
    _≤281474976710656:=by decide) (by rw[hik];exact hfit)
  rw[hik] at h;rw[hkk];exact h
 obtain⟨G,hG⟩:∃G,G=grownCap w (n+1) c 56:=⟨_,rfl⟩
 have hGn:n+1≤G:=by rw[hG];exact grownCap_ge w _ _ _
 have hG63:G≤9223372036854775807:=by
  have:=grownCap_le_maxLen w (n+1) c 56 (by unfold maxLen;omega);rw[←hG] at this;unfold maxLen at this;omega
 obtain⟨ROW,hROW⟩:∃ROW:Array Value,ROW=(cs.take (i*7)).toArray++Builtin.zeroCells z0.cells (n+1-i)++Builtin.zeroCells z0.cells (G-(n+1)):=⟨_,rfl⟩
 rw[←hG] at hrz;rw[←hROW] at hrz;have hRs:ROW.size=G*7:=by
  rw[hROW];simp only[Builtin.zeroCells,Array.size_append,List.size_toArray,htl,hzc,Array.size_map,Array.size_range];omega
 have hRt:∀j,j<i*7→ROW[j]? =cs[j]? :=fun j hj=>by
  rw[hROW,Array.append_assoc,Array.getElem?_append_left (by simp;omega)];rw[List.getElem?_toArray,List.getElem?_take,if_pos hj]
 have hRl:(n+1)*7≤ROW.size:=by rw[hRs];exact Nat.mul_le_mul_right 7 hGn
 obtain⟨W1,hW1⟩:∃W1,W1=w.drew.alloc (.cells ROW 56):=⟨_,rfl⟩
 rw[←hW1] at hrz;have hN:∀j,j<(n+1)*7→(W1.cell? ⟨w.heap.size,j,none⟩).isSome=true:=fun j hj=>by
  rw[hW1,World.cell?_alloc_at (w:=w.drew) ROW _ w.heap.size j rfl,Array.getElem?_eq_getElem (by omega)];rfl
 have hNf:∀j,W1.frozen? ⟨w.heap.size,j,none⟩=false:=fun j=>by rw[hW1];exact World.frozen?_alloc_at (w:=w.drew) ROW _ w.heap.size j rfl
 have hOb:∀j v,w.cell? ⟨b,j,none⟩=some v→W1.cell? ⟨b,j,none⟩=some v:=fun j v h=>by rw[hW1,World.cell?_alloc_past (w:=w.drew) _ b j hbw];exact h
 have hOv:∀j v,w.cell? ⟨vb,j,none⟩=some v→W1.cell? ⟨vb,j,none⟩=some v:=fun j v h=>by rw[hW1,World.cell?_alloc_past (w:=w.drew) _ vb j hvw];exact h
 have hcpA:∀(W:World),(∀x,W.cell? x=W1.cell? x)→(∀x,W.frozen? x=W1.frozen? x)→∀ty dc,(Builtin.copy_ #[30,30] ty #[.slice (some ⟨w.heap.size,i*7,none⟩) (n+1-i) dc,.slice (some ⟨vb,0,none⟩) 1 vc]).run Tryz.prog W= .ok (goInt (Nat.min 1 (n+1-i))) (W.setCells w.heap.size (i*7) vs):=fun W hWc hWf ty dc=>
  run_copy_cellsK W _ _ ty 56 7 w.heap.size (i*7) (n+1-i) dc ⟨vb,0,none⟩ 1 vc vs t24 sz56 (by rw[hvl];simp only[Nat.min_def];split<;>omega)
   (fun j v hj=>by rw[Addr.add_lit,hWc,Nat.zero_add];exact hOv _ v (hvs j v hj))
   (fun j hj=>by rw[hWc];exact hN _ (by omega)) (fun j hj=>by rw[hWf];exact hNf _) h1v
 have hGi:¬(G=i):=by omega
 have hGim:¬(G=i+1):=by omega
 have hci:¬(c=i):=by omega
 have hbN:b≠w.heap.size:=by omega
 have hdl:(cs.drop (i*7)).length=(n-i)*7:=by rw[List.length_drop,hcl];omega
 have hcpB:∀(W:World),(∀x,W.cell? x=(W1.setCells w.heap.size (i*7) vs).cell? x)→(∀x,W.frozen? x=(W1.setCells w.heap.size (i*7) vs).frozen? x)→∀ty dc sc,(Builtin.copy_ #[30,30] ty #[.slice (some ⟨w.heap.size,(i+1)*7,none⟩) (n-i) dc,.slice (some ⟨b,i*7,none⟩) (n-i) sc]).run Tryz.prog W= .ok (goInt (Nat.min (n-i) (n-i))) (W.setCells w.heap.size ((i+1)*7) (cs.drop (i*7))):=fun W hWc hWf ty dc sc=>
  run_copy_cellsK W _ _ ty 56 7 w.heap.size ((i+1)*7) (n-i) dc ⟨b,i*7,none⟩ (n-i) sc (cs.drop (i*7)) t24 sz56 (by rw[hdl];simp)
   (fun j v hj=>by
    rw[Addr.add_lit,hWc,World.cell?_setCells_out _ _ _ _ _ (fun h _=>absurd h hbN)];exact hOb _ v (hcs (i*7+j) v (by rwa [List.getElem?_drop] at hj)))
   (fun j hj=>by rw[hWc];exact isSome_setCells w.heap.size vs (i*7) W1 (fun t ht=>hN _ (by omega)) _ (hN _ (by omega)))
   (fun j hj=>by rw[hWf,World.frozen?_setCells];exact hNf _) (fun v hv=>h1c v (List.mem_of_mem_drop hv))
 subst hW1;have hE1:∀x,((w.alloc (.cells ROW 56)).drew).cell? x=(w.drew.alloc (.cells ROW 56)).cell? x:=fun x=>rfl
 have hE2:∀x,((w.alloc (.cells ROW 56)).drew).frozen? x=(w.drew.alloc (.cells ROW 56)).frozen? x:=fun x=>rfl
 have hF1:∀x,(((w.alloc (.cells ROW 56)).drew.setCells w.heap.size (i*7) vs).drew).cell? x=((w.drew.alloc (.cells ROW 56)).setCells w.heap.size (i*7) vs).cell? x:=fun x=>rfl
 have hF2:∀x,(((w.alloc (.cells ROW 56)).drew.setCells w.heap.size (i*7) vs).drew).frozen? x=((w.drew.alloc (.cells ROW 56)).setCells w.heap.size (i*7) vs).frozen? x:=fun x=>rfl
 have hw1:IntKind.i64.wrap ((i:Int)+1)=(i:Int)+1:=by rw[IntKind.wrap_i64];omega
 have hb1:(0:Int)≤(i:Int)+1:=by omega
 have hin:i≤n:=by omega
 have htn:((i:Int)+1).toNat=i+1:=by omega
 have hb3:(i:Int)≤(n:Int):=by omega
 have hfin:∀e w',(e=Ending.returned (.slice (some ⟨w.heap.size,0,none⟩) (n+1) G)∧w'=(((w.alloc (.cells ROW 56)).drew.setCells w.heap.size (i*7) vs).drew).setCells w.heap.size ((i+1)*7) (cs.drop (i*7)))→∃(G:Nat) (row:Array Value),n+1≤G∧row.size=G*7∧e= .returned (.slice (some ⟨w.heap.size,0,none⟩) (n+1) G)∧(∀j,j<i*7→row[j]? =cs[j]?)∧
   w'=(((w.alloc (.cells row 56)).drew.setCells w.heap.size (i*7) vs).drew).setCells w.heap.size ((i+1)*7) (cs.drop (i*7)):=fun e w' h=>⟨G,ROW,hGn,hRs,h.1,hRt,h.2⟩
 clear hkk hik hold hROW hG hRl hRt hfit hi0 hz0;refine Calls.mono ?_ hfin;clear hfin
 go_enter Tryz.func134,Tryz.ntmps134
 go_wp2_with (first
  |(at_builtin;refine Lib.wpList_append_run _ rfl _ _ _ _ rfl _ _ rfl rfl _ _ (hrz _) ?_)
  |(at_builtin;refine wpList_copy_runI _ rfl _ _ 30 30 rfl _ _ rfl rfl (hcpA _ hE1 hE2 _ _) ?_)
  |(at_builtin;refine wpList_copy_runI _ rfl _ _ 30 30 rfl _ _ rfl rfl (hcpB _ (fun _=>rfl) (fun _=>rfl) _ _ _) ?_))
 go_region_law_o (refine step_copy_runI rfl _ _ 30 30 rfl (.slice (some ⟨w.heap.size,(i+1)*7,none⟩) (n-i) (G-(i+1))) (.slice (some ⟨b,i*7,none⟩) (n-i) (c-i)) (by simp[Act.eval,Act.put]) (by simp[Act.eval,Act.put]) (hcpB _ hF1 hF2 3 (G-(i+1)) (c-i)) ?_)
 go_wp2
 go_ret
 exact⟨rfl,rfl⟩
end
theorem ext440:Mx.vS Tryz.prog F 440 Mx.B9:=
 Mx.Iu (tS:=30) (tE:=56) (bytes:=96) (zero:=[.int .i64 0,.str ⟨#[]⟩,.int .i64 0,.int .i64 0,.int .i64 0,.aL 4,.aL 1]) (by kernel_rfl) (by kernel_rfl) (by kernel_rfl) (by kernel_rfl) (by decide) (by kernel_rfl)
  (fun base n c vb vc w w1 val h1 h2 h3 h4=>ins_end base n c vb vc w w1 val h1 h2 h3 h4)
  (fun b n c i vb vc cs vs w h1 h2 h3 h4 h5 h6 h7 h8 h9 h10 h11 h12 tA tB kA kB h13 h14 h15 h16 h17=>ins_shift b n c i vb vc cs vs w h1 h2 h3 h4 h5 h6 h7 h8 h9 h10 h11 h12 tA tB kA kB h13 h14 h15 h16 h17)
  (fun b n c i vb vc cs vs w h1 h2 h3 h4 h5 h6 h7 h8 h9 h10=>ins_grow b n c i vb vc cs vs w h1 h2 h3 h4 h5 h6 h7 h8 h9 h10)
theorem ok108:Mx.aG Tryz.prog F 108 Mx.gP.m=true:=by kernel_rfl
theorem ok250:Mx.aG Tryz.prog F 250 Mx.kE.m=true:=by kernel_rfl
theorem ok208:Mx.aG Tryz.prog F 208 Mx.gM.m=true:=by kernel_rfl
theorem ok107:Mx.aG Tryz.prog F 107 Mx.jh.m=true:=by kernel_rfl
theorem ok17:Mx.aG Tryz.prog F 17 Mx.ie.m=true:=by kernel_rfl
theorem ok115:Mx.aG Tryz.prog F 115 Mx.jO.m=true:=by kernel_rfl
theorem ok29:Mx.aG Tryz.prog F 29 Mx.gm.m=true:=by kernel_rfl
theorem ok48:Mx.aG Tryz.prog F 48 Mx.gN.m=true:=by kernel_rfl
theorem ok98:Mx.aG Tryz.prog F 98 Mx.bE.m=true:=by kernel_rfl
theorem ok186:Mx.aG Tryz.prog F 186 Mx.cq.m=true:=by kernel_rfl
theorem ok132:Mx.aG Tryz.prog F 132 Mx.bf.m=true:=by kernel_rfl
theorem ok90:Mx.aG Tryz.prog F 90 Mx.dI.m=true:=by kernel_rfl
theorem ok183:Mx.aG Tryz.prog F 183 Mx.gi.m=true:=by kernel_rfl
theorem ok276:Mx.aG Tryz.prog F 276 Mx.iX.m=true:=by kernel_rfl
theorem ok242:Mx.aG Tryz.prog F 242 Mx.dw.m=true:=by kernel_rfl
theorem ok187:Mx.aG Tryz.prog F 187 Mx.dJ.m=true:=by kernel_rfl
theorem ok91:Mx.aG Tryz.prog F 91 Mx.bI.m=true:=by kernel_rfl
theorem ok88:Mx.aG Tryz.prog F 88 Mx.br.m=true:=by kernel_rfl
theorem ok226:Mx.aG Tryz.prog F 226 Mx.cv.m=true:=by kernel_rfl
theorem ok227:Mx.aG Tryz.prog F 227 Mx.bO.m=true:=by kernel_rfl
theorem ok149:Mx.aG Tryz.prog F 149 Mx.aJ.m=true:=by kernel_rfl
theorem ok99:Mx.aG Tryz.prog F 99 Mx.bD.m=true:=by kernel_rfl
theorem ok221:Mx.aG Tryz.prog F 221 Mx.b_.m=true:=by kernel_rfl
theorem ok206:Mx.aG Tryz.prog F 206 Mx.cW.m=true:=by kernel_rfl
theorem ok202:Mx.aG Tryz.prog F 202 Mx.gU.m=true:=by kernel_rfl
theorem ok248:Mx.aG Tryz.prog F 248 Mx.cC.m=true:=by kernel_rfl
theorem ok201:Mx.aG Tryz.prog F 201 Mx.jo.m=true:=by kernel_rfl
theorem ok100:Mx.aG Tryz.prog F 100 Mx.gL.m=true:=by kernel_rfl
theorem ok10:Mx.aG Tryz.prog F 10 Mx.fm.m=true:=by kernel_rfl
theorem ok104:Mx.aG Tryz.prog F 104 Mx.eC.m=true:=by kernel_rfl
theorem ok12:Mx.aG Tryz.prog F 12 Mx.cS.m=true:=by kernel_rfl
theorem ok139:Mx.aG Tryz.prog F 139 Mx.b9.m=true:=by kernel_rfl
theorem ok140:Mx.aG Tryz.prog F 140 Mx.fM.m=true:=by kernel_rfl
theorem ok122:Mx.aG Tryz.prog F 122 Mx.eh.m=true:=by kernel_rfl
theorem ok34:Mx.aG Tryz.prog F 34 Mx.df.m=true:=by kernel_rfl
theorem ok60:Mx.aG Tryz.prog F 60 Mx.b6.m=true:=by kernel_rfl
theorem ok167:Mx.aG Tryz.prog F 167 Mx.eO.m=true:=by kernel_rfl
theorem ok142:Mx.aG Tryz.prog F 142 Mx.dR.m=true:=by kernel_rfl
theorem ok141:Mx.aG Tryz.prog F 141 Mx.dj.m=true:=by kernel_rfl
theorem ok52:Mx.aG Tryz.prog F 52 Mx.bK.m=true:=by kernel_rfl
theorem ok75:Mx.aG Tryz.prog F 75 Mx.bh.m=true:=by kernel_rfl
theorem ok146:Mx.aG Tryz.prog F 146 Mx.eW.m=true:=by kernel_rfl
theorem ok58:Mx.aG Tryz.prog F 58 Mx.aV.m=true:=by kernel_rfl
theorem ok64:Mx.aG Tryz.prog F 64 Mx.ee.m=true:=by kernel_rfl
theorem ok448:Mx.aG Tryz.prog F 448 Mx.cu.m=true:=by kernel_rfl
theorem ok241:Mx.aG Tryz.prog F 241 Mx.gT.m=true:=by kernel_rfl
theorem ok238:Mx.aG Tryz.prog F 238 Mx.fD.m=true:=by kernel_rfl
theorem ok180:Mx.aG Tryz.prog F 180 Mx.bX.m=true:=by kernel_rfl
theorem ok219:Mx.aG Tryz.prog F 219 Mx.b5.m=true:=by kernel_rfl
theorem ok196:Mx.aG Tryz.prog F 196 Mx.dk.m=true:=by kernel_rfl
theorem ok300:Mx.aG Tryz.prog F 300 Mx.eD.m=true:=by kernel_rfl
theorem ok301:Mx.aG Tryz.prog F 301 Mx.dH.m=true:=by kernel_rfl
theorem ok278:Mx.aG Tryz.prog F 278 Mx.bY.m=true:=by kernel_rfl
theorem ok282:Mx.aG Tryz.prog F 282 Mx.cV.m=true:=by kernel_rfl
theorem ok133:Mx.aG Tryz.prog F 133 Mx.bU.m=true:=by kernel_rfl
theorem ok283:Mx.aG Tryz.prog F 283 Mx.eY.m=true:=by kernel_rfl
theorem ok181:Mx.aG Tryz.prog F 181 Mx.fW.m=true:=by kernel_rfl
theorem ok81:Mx.aG Tryz.prog F 81 Mx.dS.m=true:=by kernel_rfl
theorem ok302:Mx.aG Tryz.prog F 302 Mx.dW.m=true:=by kernel_rfl
theorem ok279:Mx.aG Tryz.prog F 279 Mx.eX.m=true:=by kernel_rfl
theorem ok277:Mx.aG Tryz.prog F 277 Mx.hQ.m=true:=by kernel_rfl
theorem ok243:Mx.aG Tryz.prog F 243 Mx.iY.m=true:=by kernel_rfl
theorem ok184:Mx.aG Tryz.prog F 184 Mx.cE.m=true:=by kernel_rfl
theorem ok84:Mx.aG Tryz.prog F 84 Mx.dD.m=true:=by kernel_rfl
theorem ok280:Mx.aG Tryz.prog F 280 Mx.eP.m=true:=by kernel_rfl
theorem ok86:Mx.aG Tryz.prog F 86 Mx.de.m=true:=by kernel_rfl
theorem ok281:Mx.aG Tryz.prog F 281 Mx.eQ.m=true:=by kernel_rfl
theorem ok43:Mx.aG Tryz.prog F 43 Mx.aT.m=true:=by kernel_rfl
theorem ok474:Mx.aG Tryz.prog F 474 Mx.fU.m=true:=by kernel_rfl
theorem ok459:Mx.aG Tryz.prog F 459 Mx.gS.m=true:=by kernel_rfl
theorem ok460:Mx.aG Tryz.prog F 460 Mx.db.m=true:=by kernel_rfl
theorem ok488:Mx.aG Tryz.prog F 488 Mx.gk.m=true:=by kernel_rfl
theorem ok472:Mx.aG Tryz.prog F 472 Mx.dK.m=true:=by kernel_rfl
theorem ok461:Mx.aG Tryz.prog F 461 Mx.fq.m=true:=by kernel_rfl
theorem ok22:Mx.aG Tryz.prog F 22 Mx.dC.m=true:=by kernel_rfl
theorem ok462:Mx.aG Tryz.prog F 462 Mx.cK.m=true:=by kernel_rfl
theorem ok439:Mx.aG Tryz.prog F 439 Mx.cP.m=true:=by kernel_rfl
theorem ok405:Mx.aG Tryz.prog F 405 Mx.eE.m=true:=by kernel_rfl
theorem ok247:Mx.aG Tryz.prog F 247 Mx.gC.m=true:=by kernel_rfl
theorem ok197:Mx.aG Tryz.prog F 197 Mx.cQ.m=true:=by kernel_rfl
theorem ok475:Mx.aG Tryz.prog F 475 Mx.cr.m=true:=by kernel_rfl
theorem ok466:Mx.aG Tryz.prog F 466 Mx.aW.m=true:=by kernel_rfl
theorem ok446:Mx.aG Tryz.prog F 446 Mx.bH.m=true:=by kernel_rfl
theorem ok432:Mx.aG Tryz.prog F 432 Mx.fb.m=true:=by kernel_rfl
theorem ok468:Mx.aG Tryz.prog F 468 Mx.cL.m=true:=by kernel_rfl
theorem ok449:Mx.aG Tryz.prog F 449 Mx.hZ.m=true:=by kernel_rfl
theorem ok113:Mx.aG Tryz.prog F 113 Mx.ik.m=true:=by kernel_rfl
theorem ok62:Mx.aG Tryz.prog F 62 Mx.fR.m=true:=by kernel_rfl
theorem ok434:Mx.aG Tryz.prog F 434 Mx.gu.m=true:=by kernel_rfl
theorem ok42:Mx.aG Tryz.prog F 42 Mx.i_.m=true:=by kernel_rfl
theorem ok109:Mx.aG Tryz.prog F 109 Mx.gW.m=true:=by kernel_rfl
theorem ok288:Mx.aG Tryz.prog F 288 Mx.jZ.m=true:=by kernel_rfl
theorem ok251:Mx.aG Tryz.prog F 251 Mx.jM.m=true:=by kernel_rfl
theorem ok209:Mx.aG Tryz.prog F 209 Mx.jx.m=true:=by kernel_rfl
theorem ok110:Mx.aG Tryz.prog F 110 Mx.jg.m=true:=by kernel_rfl
theorem ok18:Mx.aG Tryz.prog F 18 Mx.j0.m=true:=by kernel_rfl
theorem ok117:Mx.aG Tryz.prog F 117 Mx.jN.m=true:=by kernel_rfl
theorem ok30:Mx.aG Tryz.prog F 30 Mx.iO.m=true:=by kernel_rfl
theorem ok49:Mx.aG Tryz.prog F 49 Mx.jy.m=true:=by kernel_rfl
theorem ok101:Mx.aG Tryz.prog F 101 Mx.bP.m=true:=by kernel_rfl
theorem ok230:Mx.aG Tryz.prog F 230 Mx.cJ.m=true:=by kernel_rfl
theorem ok231:Mx.aG Tryz.prog F 231 Mx.cd.m=true:=by kernel_rfl
theorem ok207:Mx.aG Tryz.prog F 207 Mx.cY.m=true:=by kernel_rfl
theorem ok249:Mx.aG Tryz.prog F 249 Mx.cD.m=true:=by kernel_rfl
theorem ok203:Mx.aG Tryz.prog F 203 Mx.ju.m=true:=by kernel_rfl
theorem ok236:Mx.aG Tryz.prog F 236 Mx.gQ.m=true:=by kernel_rfl
theorem ok168:Mx.aG Tryz.prog F 168 Mx.eS.m=true:=by kernel_rfl
theorem ok105:Mx.aG Tryz.prog F 105 Mx.du.m=true:=by kernel_rfl
theorem ok13:Mx.aG Tryz.prog F 13 Mx.cT.m=true:=by kernel_rfl
theorem ok152:Mx.aG Tryz.prog F 152 Mx.bL.m=true:=by kernel_rfl
theorem ok153:Mx.aG Tryz.prog F 153 Mx.dX.m=true:=by kernel_rfl
theorem ok147:Mx.aG Tryz.prog F 147 Mx.gg.m=true:=by kernel_rfl
theorem ok89:Mx.aG Tryz.prog F 89 Mx.dP.m=true:=by kernel_rfl
theorem ok165:Mx.aG Tryz.prog F 165 Mx.dg.m=true:=by kernel_rfl
theorem ok234:Mx.aG Tryz.prog F 234 Mx.bJ.m=true:=by kernel_rfl
theorem ok156:Mx.aG Tryz.prog F 156 Mx.aI.m=true:=by kernel_rfl
theorem ok164:Mx.aG Tryz.prog F 164 Mx.gn.m=true:=by kernel_rfl
theorem ok272:Mx.aG Tryz.prog F 272 Mx.ja.m=true:=by kernel_rfl
theorem ok235:Mx.aG Tryz.prog F 235 Mx.dx.m=true:=by kernel_rfl
theorem ok166:Mx.aG Tryz.prog F 166 Mx.eK.m=true:=by kernel_rfl
theorem ok161:Mx.aG Tryz.prog F 161 Mx.az.m=true:=by kernel_rfl
theorem ok160:Mx.aG Tryz.prog F 160 Mx.gw.m=true:=by kernel_rfl
theorem ok72:Mx.aG Tryz.prog F 72 Mx.cy.m=true:=by kernel_rfl
theorem ok74:Mx.aG Tryz.prog F 74 Mx.bC.m=true:=by kernel_rfl
theorem ok200:Mx.aG Tryz.prog F 200 Mx.ay.m=true:=by kernel_rfl
theorem ok271:Mx.aG Tryz.prog F 271 Mx.fp.m=true:=by kernel_rfl
theorem ok228:Mx.aG Tryz.prog F 228 Mx.dG.m=true:=by kernel_rfl
theorem ok229:Mx.aG Tryz.prog F 229 Mx.cG.m=true:=by kernel_rfl
theorem ok150:Mx.aG Tryz.prog F 150 Mx.aK.m=true:=by kernel_rfl
theorem ok169:Mx.aG Tryz.prog F 169 Mx.dL.m=true:=by kernel_rfl
theorem ok170:Mx.aG Tryz.prog F 170 Mx.dp.m=true:=by kernel_rfl
theorem ok222:Mx.aG Tryz.prog F 222 Mx.fo.m=true:=by kernel_rfl
theorem ok223:Mx.aG Tryz.prog F 223 Mx.dM.m=true:=by kernel_rfl
theorem ok143:Mx.aG Tryz.prog F 143 Mx.dq.m=true:=by kernel_rfl
theorem ok76:Mx.aG Tryz.prog F 76 Mx.bB.m=true:=by kernel_rfl
theorem ok148:Mx.aG Tryz.prog F 148 Mx.fF.m=true:=by kernel_rfl
theorem ok59:Mx.aG Tryz.prog F 59 Mx.aN.m=true:=by kernel_rfl
theorem ok65:Mx.aG Tryz.prog F 65 Mx.eT.m=true:=by kernel_rfl
theorem ok450:Mx.aG Tryz.prog F 450 Mx.fG.m=true:=by kernel_rfl
theorem ok134:Mx.aG Tryz.prog F 134 Mx.eR.m=true:=by kernel_rfl
theorem ok239:Mx.aG Tryz.prog F 239 Mx.gv.m=true:=by kernel_rfl
theorem ok233:Mx.aG Tryz.prog F 233 Mx.ei.m=true:=by kernel_rfl
theorem ok155:Mx.aG Tryz.prog F 155 Mx.cm.m=true:=by kernel_rfl
theorem ok270:Mx.aG Tryz.prog F 270 Mx.eG.m=true:=by kernel_rfl
theorem ok220:Mx.aG Tryz.prog F 220 Mx.bW.m=true:=by kernel_rfl
theorem ok413:Mx.aG Tryz.prog F 413 Mx.fy.m=true:=by kernel_rfl
theorem ok431:Mx.aG Tryz.prog F 431 Mx.dO.m=true:=by kernel_rfl
theorem ok441:Mx.aG Tryz.prog F 441 Mx.fY.m=true:=by kernel_rfl
theorem ok409:Mx.aG Tryz.prog F 409 Mx.cU.m=true:=by kernel_rfl
theorem ok199:Mx.aG Tryz.prog F 199 Mx.iR.m=true:=by kernel_rfl
theorem ok95:Mx.aG Tryz.prog F 95 Mx.gA.m=true:=by kernel_rfl
theorem ok411:Mx.aG Tryz.prog F 411 Mx.dN.m=true:=by kernel_rfl
theorem ok442:Mx.aG Tryz.prog F 442 Mx.bc.m=true:=by kernel_rfl
theorem ok163:Mx.aG Tryz.prog F 163 Mx.jr.m=true:=by kernel_rfl
theorem ok412:Mx.aG Tryz.prog F 412 Mx.fI.m=true:=by kernel_rfl
theorem ok157:Mx.aG Tryz.prog F 157 Mx.fZ.m=true:=by kernel_rfl
theorem ok70:Mx.aG Tryz.prog F 70 Mx.dU.m=true:=by kernel_rfl
theorem ok410:Mx.aG Tryz.prog F 410 Mx.fa.m=true:=by kernel_rfl
theorem ok275:Mx.aG Tryz.prog F 275 Mx.fV.m=true:=by kernel_rfl
theorem ok240:Mx.aG Tryz.prog F 240 Mx.jc.m=true:=by kernel_rfl
theorem ok182:Mx.aG Tryz.prog F 182 Mx.cF.m=true:=by kernel_rfl
theorem ok83:Mx.aG Tryz.prog F 83 Mx.dF.m=true:=by kernel_rfl
theorem ok428:Mx.aG Tryz.prog F 428 Mx.eU.m=true:=by kernel_rfl
theorem ok162:Mx.aG Tryz.prog F 162 Mx.aX.m=true:=by kernel_rfl
theorem ok73:Mx.aG Tryz.prog F 73 Mx.fH.m=true:=by kernel_rfl
theorem ok429:Mx.aG Tryz.prog F 429 Mx.eV.m=true:=by kernel_rfl
theorem ok44:Mx.aG Tryz.prog F 44 Mx.fv.m=true:=by kernel_rfl
theorem ok477:Mx.aG Tryz.prog F 477 Mx.eH.m=true:=by kernel_rfl
theorem ok476:Mx.aG Tryz.prog F 476 Mx.eI.m=true:=by kernel_rfl
theorem ok485:Mx.aG Tryz.prog F 485 Mx.gZ.m=true:=by kernel_rfl
theorem ok470:Mx.aG Tryz.prog F 470 Mx.dQ.m=true:=by kernel_rfl
theorem ok452:Mx.aG Tryz.prog F 452 Mx.fu.m=true:=by kernel_rfl
theorem ok20:Mx.aG Tryz.prog F 20 Mx.jd.m=true:=by kernel_rfl
theorem ok453:Mx.aG Tryz.prog F 453 Mx.aC.m=true:=by kernel_rfl
theorem ok454:Mx.aG Tryz.prog F 454 Mx.gI.m=true:=by kernel_rfl
theorem ok486:Mx.aG Tryz.prog F 486 Mx.ao.m=true:=by kernel_rfl
theorem ok471:Mx.aG Tryz.prog F 471 Mx.aM.m=true:=by kernel_rfl
theorem ok455:Mx.aG Tryz.prog F 455 Mx.aU.m=true:=by kernel_rfl
theorem ok457:Mx.aG Tryz.prog F 457 Mx.eZ.m=true:=by kernel_rfl
theorem ok456:Mx.aG Tryz.prog F 456 Mx.gH.m=true:=by kernel_rfl
theorem ok23:Mx.aG Tryz.prog F 23 Mx.dE.m=true:=by kernel_rfl
theorem ok458:Mx.aG Tryz.prog F 458 Mx.gG.m=true:=by kernel_rfl
theorem ok437:Mx.aG Tryz.prog F 437 Mx.bR.m=true:=by kernel_rfl
theorem ok401:Mx.aG Tryz.prog F 401 Mx.gE.m=true:=by kernel_rfl
theorem ok478:Mx.aG Tryz.prog F 478 Mx.aF.m=true:=by kernel_rfl
theorem ok479:Mx.aG Tryz.prog F 479 Mx.fj.m=true:=by kernel_rfl
theorem ok492:Mx.aG Tryz.prog F 492 Mx.ar.m=true:=by kernel_rfl
theorem ok490:Mx.aG Tryz.prog F 490 Mx.aP.m=true:=by kernel_rfl
theorem ok480:Mx.aG Tryz.prog F 480 Mx.aZ.m=true:=by kernel_rfl
theorem ok481:Mx.aG Tryz.prog F 481 Mx.fi.m=true:=by kernel_rfl
theorem ok482:Mx.aG Tryz.prog F 482 Mx.bd.m=true:=by kernel_rfl
theorem ok483:Mx.aG Tryz.prog F 483 Mx.fh.m=true:=by kernel_rfl
theorem ok128:Mx.aG Tryz.prog F 128 Mx.dh.m=true:=by kernel_rfl
theorem ok484:Mx.aG Tryz.prog F 484 Mx.cB.m=true:=by kernel_rfl
theorem ok467:Mx.aG Tryz.prog F 467 Mx.bp.m=true:=by kernel_rfl
theorem ok447:Mx.aG Tryz.prog F 447 Mx.bz.m=true:=by kernel_rfl
theorem ok433:Mx.aG Tryz.prog F 433 Mx.fe.m=true:=by kernel_rfl
theorem ok469:Mx.aG Tryz.prog F 469 Mx.cM.m=true:=by kernel_rfl
theorem ok451:Mx.aG Tryz.prog F 451 Mx.ig.m=true:=by kernel_rfl
theorem ok114:Mx.aG Tryz.prog F 114 Mx.il.m=true:=by kernel_rfl
theorem ok151:Mx.aG Tryz.prog F 151 Mx.fE.m=true:=by kernel_rfl
theorem ok205:Mx.aG Tryz.prog F 205 Mx.fS.m=true:=by kernel_rfl
theorem ok102:Mx.aG Tryz.prog F 102 Mx.jq.m=true:=by kernel_rfl
theorem ok213:Mx.aG Tryz.prog F 213 Mx.ep.m=true:=by kernel_rfl
theorem ok123:Mx.aG Tryz.prog F 123 Mx.e_.m=true:=by kernel_rfl
theorem ok204:Mx.aG Tryz.prog F 204 Mx.kK.m=true:=by kernel_rfl
theorem ok103:Mx.aG Tryz.prog F 103 Mx.iJ.m=true:=by kernel_rfl
theorem ok61:Mx.aG Tryz.prog F 61 Mx.cX.m=true:=by kernel_rfl
theorem ok63:Mx.aG Tryz.prog F 63 Mx.gD.m=true:=by kernel_rfl
theorem ok435:Mx.aG Tryz.prog F 435 Mx.iv.m=true:=by kernel_rfl
theorem ok45:Mx.aG Tryz.prog F 45 Mx.fN.m=true:=by kernel_rfl
theorem ok111:Mx.aG Tryz.prog F 111 Mx.gX.m=true:=by kernel_rfl
theorem ok289:Mx.aG Tryz.prog F 289 Mx.j1.m=true:=by kernel_rfl
theorem ok252:Mx.aG Tryz.prog F 252 Mx.jP.m=true:=by kernel_rfl
theorem ok210:Mx.aG Tryz.prog F 210 Mx.jz.m=true:=by kernel_rfl
theorem ok112:Mx.aG Tryz.prog F 112 Mx.ji.m=true:=by kernel_rfl
theorem ok21:Mx.aG Tryz.prog F 21 Mx.j2.m=true:=by kernel_rfl
theorem ok121:Mx.aG Tryz.prog F 121 Mx.jQ.m=true:=by kernel_rfl
theorem ok33:Mx.aG Tryz.prog F 33 Mx.iP.m=true:=by kernel_rfl
theorem ok26:Mx.aG Tryz.prog F 26 Mx.jA.m=true:=by kernel_rfl
theorem ok399:Mx.aG Tryz.prog F 399 Mx.cH.m=true:=by kernel_rfl
set_option maxHeartbeats 4000000 in
set_option maxRecDepth 100000 in
theorem table:Mx.sB Tryz.prog F M:=by
 refine Mx.BE ?_ ?_
 ·simp only[tab,List.forall_mem_cons];exact⟨ok108,ok250,ok208,ok107,ok17,ok115,ok29,ok48,ok98,ok186,ok132,ok90,ok183,ok276,ok242,ok187,ok91,ok88,ok226,ok227,ok149,ok99,ok221,ok206,ok202,ok248,ok201,ok100,ok10,ok104,ok12,ok139,ok140,ok122,ok34,ok60,ok167,ok142,ok141,ok52,ok75,ok146,ok58,ok64,ok448,ok241,ok238,ok180,ok219,ok196,ok300,ok301,ok278,ok282,ok133,ok283,ok181,ok81,ok302,ok279,ok277,ok243,ok184,ok84,ok280,ok86,ok281,ok43,ok474,ok459,ok460,ok488,ok472,ok461,ok22,ok462,ok439,ok405,ok247,ok197,ok475,ok466,ok446,ok432,ok468,ok449,ok113,ok62,ok434,ok42,ok109,ok288,ok251,ok209,ok110,ok18,ok117,ok30,ok49,ok101,ok230,ok231,ok207,ok249,ok203,ok236,ok168,ok105,ok13,ok152,ok153,ok147,ok89,ok165,ok234,ok156,ok164,ok272,ok235,ok166,ok161,ok160,ok72,ok74,ok200,ok271,ok228,ok229,ok150,ok169,ok170,ok222,ok223,ok143,ok76,ok148,ok59,ok65,ok450,ok134,ok239,ok233,ok155,ok270,ok220,ok413,ok431,ok441,ok409,ok199,ok95,ok411,ok442,ok163,ok412,ok157,ok70,ok410,ok275,ok240,ok182,ok83,ok428,ok162,ok73,ok429,ok44,ok477,ok476,ok485,ok470,ok452,ok20,ok453,ok454,ok486,ok471,ok455,ok457,ok456,ok23,ok458,ok437,ok401,ok478,ok479,ok492,ok490,ok480,ok481,ok482,ok483,ok128,ok484,ok467,ok447,ok433,ok469,ok451,ok114,ok151,ok205,ok102,ok213,ok123,ok204,ok103,ok61,ok63,ok435,ok45,ok111,ok289,ok252,ok210,ok112,ok21,ok121,ok33,ok26,ok399,by simp⟩
 ·simp only[exts,List.forall_mem_cons];exact⟨ext440,ext135,ext136,by simp⟩
theorem k108:Mx.gP.k M:=rfl
theorem k250:Mx.kE.k M:=rfl
theorem k208:Mx.gM.k M:=⟨rfl,k250⟩
theorem k107:Mx.jh.k M:=⟨rfl,k208⟩
theorem k17:Mx.ie.k M:=⟨rfl,k107,k108⟩
theorem k115:Mx.jO.k M:=⟨rfl,k17⟩
theorem k29:Mx.gm.k M:=⟨rfl,k108,k115⟩
theorem k48:Mx.gN.k M:=⟨rfl,k29⟩
theorem k98:Mx.bE.k M:=rfl
theorem k186:Mx.cq.k M:=⟨rfl,k98⟩
theorem k132:Mx.bf.k M:=rfl
theorem k90:Mx.dI.k M:=⟨rfl,k98⟩
theorem k183:Mx.gi.k M:=⟨rfl,k98⟩
theorem k276:Mx.iX.k M:=⟨rfl,k98,k183⟩
theorem k242:Mx.dw.k M:=⟨rfl,k276⟩
theorem k187:Mx.dJ.k M:=⟨rfl,k98,k242⟩
theorem k91:Mx.bI.k M:=rfl
theorem k88:Mx.br.k M:=⟨rfl,k90,k91,k98,k132,k183,k186,k187⟩
theorem k226:Mx.cv.k M:=rfl
theorem k227:Mx.bO.k M:=rfl
theorem k149:Mx.aJ.k M:=⟨rfl,k88,k98,k132,k186,k226,k227⟩
theorem k99:Mx.bD.k M:=rfl
theorem k221:Mx.b_.k M:=⟨rfl,k98,k99⟩
theorem k206:Mx.cW.k M:=⟨rfl,k221⟩
theorem k202:Mx.gU.k M:=rfl
theorem k248:Mx.cC.k M:=rfl
theorem k201:Mx.jo.k M:=⟨rfl,k248⟩
theorem k100:Mx.gL.k M:=⟨rfl,k201,k202⟩
theorem k10:Mx.fm.k M:=⟨rfl,k98,k99,k100⟩
theorem k104:Mx.eC.k M:=⟨rfl,k10,k206⟩
theorem k12:Mx.cS.k M:=⟨rfl,k104⟩
theorem k139:Mx.b9.k M:=⟨rfl,k221⟩
theorem k140:Mx.fM.k M:=⟨rfl,k206⟩
theorem k122:Mx.eh.k M:=⟨rfl,k99,k187⟩
theorem k34:Mx.df.k M:=⟨rfl,k88,k99,k122⟩
theorem k60:Mx.b6.k M:=⟨rfl,k34,k99,k100,k149⟩
theorem k167:Mx.eO.k M:=⟨rfl,k201,k202⟩
theorem k142:Mx.dR.k M:=⟨rfl,k139⟩
theorem k141:Mx.dj.k M:=⟨rfl,k139,k140,k187⟩
theorem k52:Mx.bK.k M:=⟨rfl,k88,k139,k140,k141,k142⟩
theorem k75:Mx.bh.k M:=⟨rfl,k52,k60,k139,k142,k167⟩
theorem k146:Mx.eW.k M:=⟨rfl,k75,k90⟩
theorem k58:Mx.aV.k M:=⟨rfl,k98,k146⟩
theorem k64:Mx.ee.k M:=⟨rfl,k58,k139,k140⟩
theorem k448:Mx.cu.k M:=⟨rfl,k12,k64⟩
theorem k241:Mx.gT.k M:=rfl
theorem k238:Mx.fD.k M:=⟨rfl,k241⟩
theorem k180:Mx.bX.k M:=⟨rfl,k238⟩
theorem k219:Mx.b5.k M:=⟨rfl,k180⟩
theorem k196:Mx.dk.k M:=rfl
theorem k300:Mx.eD.k M:=⟨rfl,k91,k132,k196⟩
theorem k301:Mx.dH.k M:=rfl
theorem k278:Mx.bY.k M:=⟨rfl,k149,k180,k219,k226,k300,k301⟩
theorem k282:Mx.cV.k M:=⟨rfl,k149,k196,k219,k226,k301⟩
theorem k133:Mx.bU.k M:=rfl
theorem k283:Mx.eY.k M:=⟨rfl,k133,k149,k196,k219⟩
theorem k181:Mx.fW.k M:=rfl
theorem k81:Mx.dS.k M:=⟨rfl,k88,k91,k98,k132,k180,k181⟩
theorem k302:Mx.dW.k M:=⟨rfl,k149,k219⟩
theorem k279:Mx.eX.k M:=⟨rfl,k81,k149,k196,k219,k300,k301,k302⟩
theorem k277:Mx.hQ.k M:=rfl
theorem k243:Mx.iY.k M:=⟨rfl,k276,k277⟩
theorem k184:Mx.cE.k M:=⟨rfl,k98,k241,k242,k243⟩
theorem k84:Mx.dD.k M:=⟨rfl,k88,k91,k98,k180,k183,k184⟩
theorem k280:Mx.eP.k M:=⟨rfl,k84,k149,k196,k219,k301,k302⟩
theorem k86:Mx.de.k M:=⟨rfl,k88,k91,k133,k180⟩
theorem k281:Mx.eQ.k M:=⟨rfl,k86,k149,k196,k219⟩
theorem k43:Mx.aT.k M:=⟨rfl,k132,k133⟩
theorem k474:Mx.fU.k M:=rfl
theorem k459:Mx.gS.k M:=rfl
theorem k460:Mx.db.k M:=⟨rfl,k132,k133⟩
theorem k488:Mx.gk.k M:=⟨rfl,k277⟩
theorem k472:Mx.dK.k M:=⟨rfl,k488⟩
theorem k461:Mx.fq.k M:=⟨rfl,k238,k472⟩
theorem k22:Mx.dC.k M:=⟨rfl,k91⟩
theorem k462:Mx.cK.k M:=rfl
theorem k439:Mx.cP.k M:=⟨rfl,k22,k91,k132,k238,k459,k460,k461,k462⟩
theorem k405:Mx.eE.k M:=⟨rfl,k43,k180,k277,k439⟩
theorem k247:Mx.gC.k M:=rfl
theorem k197:Mx.cQ.k M:=⟨rfl,k247⟩
theorem k475:Mx.cr.k M:=⟨rfl,k197⟩
theorem k466:Mx.aW.k M:=⟨rfl,k132,k133,k180,k405,k474,k475⟩
theorem k446:Mx.bH.k M:=⟨rfl,k43,k132,k466⟩
theorem k432:Mx.fb.k M:=⟨rfl,k149,k446⟩
theorem k468:Mx.cL.k M:=⟨rfl,k58,k75,k219,k278,k279,k280,k281,k282,k283,k432,k446⟩
theorem k449:Mx.hZ.k M:=⟨rfl,k219,k468⟩
theorem k113:Mx.ik.k M:=rfl
theorem k62:Mx.fR.k M:=⟨rfl,k60⟩
theorem k434:Mx.gu.k M:=⟨rfl,k62,k98,k113,k149,k448,k449⟩
theorem k42:Mx.i_.k M:=rfl
theorem k109:Mx.gW.k M:=rfl
theorem k288:Mx.jZ.k M:=⟨rfl,k109⟩
theorem k251:Mx.jM.k M:=⟨rfl,k288⟩
theorem k209:Mx.jx.k M:=⟨rfl,k251⟩
theorem k110:Mx.jg.k M:=⟨rfl,k209⟩
theorem k18:Mx.j0.k M:=⟨rfl,k42,k109,k110⟩
theorem k117:Mx.jN.k M:=⟨rfl,k18⟩
theorem k30:Mx.iO.k M:=⟨rfl,k42,k117⟩
theorem k49:Mx.jy.k M:=⟨rfl,k30⟩
theorem k101:Mx.bP.k M:=rfl
theorem k230:Mx.cJ.k M:=⟨rfl,k101⟩
theorem k231:Mx.cd.k M:=⟨rfl,k101,k230⟩
theorem k207:Mx.cY.k M:=⟨rfl,k231⟩
theorem k249:Mx.cD.k M:=rfl
theorem k203:Mx.ju.k M:=⟨rfl,k249⟩
theorem k236:Mx.gQ.k M:=rfl
theorem k168:Mx.eS.k M:=⟨rfl,k101,k203,k236⟩
theorem k105:Mx.du.k M:=⟨rfl,k101,k168,k207⟩
theorem k13:Mx.cT.k M:=⟨rfl,k105⟩
theorem k152:Mx.bL.k M:=⟨rfl,k231⟩
theorem k153:Mx.dX.k M:=⟨rfl,k207⟩
theorem k147:Mx.gg.k M:=⟨rfl,k101⟩
theorem k89:Mx.dP.k M:=⟨rfl,k101⟩
theorem k165:Mx.dg.k M:=⟨rfl,k147⟩
theorem k234:Mx.bJ.k M:=rfl
theorem k156:Mx.aI.k M:=⟨rfl,k234⟩
theorem k164:Mx.gn.k M:=⟨rfl,k101⟩
theorem k272:Mx.ja.k M:=⟨rfl,k101,k164⟩
theorem k235:Mx.dx.k M:=⟨rfl,k272⟩
theorem k166:Mx.eK.k M:=⟨rfl,k147,k235⟩
theorem k161:Mx.az.k M:=rfl
theorem k160:Mx.gw.k M:=rfl
theorem k72:Mx.cy.k M:=⟨rfl,k160,k161⟩
theorem k74:Mx.bC.k M:=⟨rfl,k72,k89,k101,k147,k156,k164,k165,k166⟩
theorem k200:Mx.ay.k M:=rfl
theorem k271:Mx.fp.k M:=rfl
theorem k228:Mx.dG.k M:=⟨rfl,k200,k271⟩
theorem k229:Mx.cG.k M:=rfl
theorem k150:Mx.aK.k M:=⟨rfl,k74,k101,k156,k165,k228,k229⟩
theorem k169:Mx.dL.k M:=⟨rfl,k152⟩
theorem k170:Mx.dp.k M:=⟨rfl,k152,k169⟩
theorem k222:Mx.fo.k M:=⟨rfl,k152⟩
theorem k223:Mx.dM.k M:=⟨rfl,k152,k153,k222⟩
theorem k143:Mx.dq.k M:=⟨rfl,k152,k153,k169,k170,k222,k223⟩
theorem k76:Mx.bB.k M:=⟨rfl,k143,k150,k152,k168,k169,k170⟩
theorem k148:Mx.fF.k M:=⟨rfl,k101⟩
theorem k59:Mx.aN.k M:=⟨rfl,k76,k89,k147,k148⟩
theorem k65:Mx.eT.k M:=⟨rfl,k59,k152,k153⟩
theorem k450:Mx.fG.k M:=⟨rfl,k13,k65⟩
theorem k134:Mx.eR.k M:=rfl
theorem k239:Mx.gv.k M:=rfl
theorem k233:Mx.ei.k M:=⟨rfl,k239⟩
theorem k155:Mx.cm.k M:=⟨rfl,k134,k233⟩
theorem k270:Mx.eG.k M:=⟨rfl,k155⟩
theorem k220:Mx.bW.k M:=⟨rfl,k134,k270⟩
theorem k413:Mx.fy.k M:=⟨rfl,k72,k156⟩
theorem k431:Mx.dO.k M:=rfl
theorem k441:Mx.fY.k M:=⟨rfl,k150,k220⟩
theorem k409:Mx.cU.k M:=⟨rfl,k150,k220,k228,k413,k431,rfl,k441⟩
theorem k199:Mx.iR.k M:=rfl
theorem k95:Mx.gA.k M:=⟨rfl,k199,k200⟩
theorem k411:Mx.dN.k M:=⟨rfl,k95,k150,k220,k228,k431,k441⟩
theorem k442:Mx.bc.k M:=rfl
theorem k163:Mx.jr.k M:=⟨rfl,k134,rfl,rfl⟩
theorem k412:Mx.fI.k M:=⟨rfl,k95,k150,k163,k220,k442⟩
theorem k157:Mx.fZ.k M:=rfl
theorem k70:Mx.dU.k M:=⟨rfl,k72,k74,k148,k155,k156,k157⟩
theorem k410:Mx.fa.k M:=⟨rfl,k70,k95,k150,k220,k413,k431,k441⟩
theorem k275:Mx.fV.k M:=rfl
theorem k240:Mx.jc.k M:=⟨rfl,k272,k275⟩
theorem k182:Mx.cF.k M:=⟨rfl,k148,k235,k239,k240⟩
theorem k83:Mx.dF.k M:=⟨rfl,k72,k74,k148,k155,k164,k182⟩
theorem k428:Mx.eU.k M:=⟨rfl,k83,k95,k150,k220,k431,k441⟩
theorem k162:Mx.aX.k M:=rfl
theorem k73:Mx.fH.k M:=⟨rfl,k72,k74,k155,k162,k163⟩
theorem k429:Mx.eV.k M:=⟨rfl,k73,k95,k150,k220⟩
theorem k44:Mx.fv.k M:=⟨rfl,k134,rfl,rfl⟩
theorem k477:Mx.eH.k M:=rfl
theorem k476:Mx.eI.k M:=⟨rfl,k200,k477⟩
theorem k485:Mx.gZ.k M:=⟨rfl,k275⟩
theorem k470:Mx.dQ.k M:=⟨rfl,k485⟩
theorem k452:Mx.fu.k M:=⟨rfl,k233,k470⟩
theorem k20:Mx.jd.k M:=⟨rfl,k72⟩
theorem k453:Mx.aC.k M:=⟨rfl,k161⟩
theorem k454:Mx.gI.k M:=⟨rfl,k156⟩
theorem k486:Mx.ao.k M:=rfl
theorem k471:Mx.aM.k M:=⟨rfl,k486⟩
theorem k455:Mx.aU.k M:=⟨rfl,k471⟩
theorem k457:Mx.eZ.k M:=rfl
theorem k456:Mx.gH.k M:=⟨rfl,k457⟩
theorem k23:Mx.dE.k M:=⟨rfl,k72⟩
theorem k458:Mx.gG.k M:=⟨rfl,k457⟩
theorem k437:Mx.bR.k M:=⟨rfl,k20,k23,k44,k72,k233,k452,k453,k454,k455,k456,k458⟩
theorem k401:Mx.gE.k M:=⟨rfl,k44,k155,k275,k437⟩
theorem k478:Mx.aF.k M:=⟨rfl,k200⟩
theorem k479:Mx.fj.k M:=⟨rfl,k156⟩
theorem k492:Mx.ar.k M:=rfl
theorem k490:Mx.aP.k M:=⟨rfl,k492⟩
theorem k480:Mx.aZ.k M:=⟨rfl,k490⟩
theorem k481:Mx.fi.k M:=⟨rfl,k457⟩
theorem k482:Mx.bd.k M:=⟨rfl,k200⟩
theorem k483:Mx.fh.k M:=rfl
theorem k128:Mx.dh.k M:=rfl
theorem k484:Mx.cB.k M:=⟨rfl,k128⟩
theorem k467:Mx.bp.k M:=⟨rfl,k155,k401,k476,k478,k479,k480,k481,k482,k483,k484⟩
theorem k447:Mx.bz.k M:=⟨rfl,k44,k156,k467⟩
theorem k433:Mx.fe.k M:=⟨rfl,k150,k447⟩
theorem k469:Mx.cM.k M:=⟨rfl,k59,k76,k220,k409,k410,k411,k412,k428,k429,k433,k447⟩
theorem k451:Mx.ig.k M:=⟨rfl,k220,k469⟩
theorem k114:Mx.il.k M:=rfl
theorem k151:Mx.fE.k M:=⟨rfl,k230⟩
theorem k205:Mx.fS.k M:=⟨rfl,k230⟩
theorem k102:Mx.jq.k M:=⟨rfl,k205⟩
theorem k213:Mx.ep.k M:=⟨rfl,k102,k151,k166⟩
theorem k123:Mx.e_.k M:=⟨rfl,k102,k151,k213⟩
theorem k204:Mx.kK.k M:=rfl
theorem k103:Mx.iJ.k M:=⟨rfl,k203,k204⟩
theorem k61:Mx.cX.k M:=⟨rfl,k103,k123,k150,k151⟩
theorem k63:Mx.gD.k M:=⟨rfl,k61⟩
theorem k435:Mx.iv.k M:=⟨rfl,k63,k101,k114,k150,k450,k451⟩
theorem k45:Mx.fN.k M:=rfl
theorem k111:Mx.gX.k M:=rfl
theorem k289:Mx.j1.k M:=⟨rfl,k111⟩
theorem k252:Mx.jP.k M:=⟨rfl,k289⟩
theorem k210:Mx.jz.k M:=⟨rfl,k252⟩
theorem k112:Mx.ji.k M:=⟨rfl,k210⟩
theorem k21:Mx.j2.k M:=⟨rfl,k45,k111,k112⟩
theorem k121:Mx.jQ.k M:=⟨rfl,k21⟩
theorem k33:Mx.iP.k M:=⟨rfl,k45,k121⟩
theorem k26:Mx.jA.k M:=⟨rfl,k33⟩
theorem k399:Mx.cH.k M:=⟨rfl,k26,k48,k49,k434,k435⟩
end Go.Proofs.YtolaaohibicllaaGreat.fnExactKeptOk
