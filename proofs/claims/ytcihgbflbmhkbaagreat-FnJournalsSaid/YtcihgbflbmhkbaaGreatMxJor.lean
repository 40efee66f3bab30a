/-
  Toward: at every input FnJournals returns true, and its arguments read as they did. No condition.
-/
import Derived.Test.YtcihgbflbmhkbaaGreatRows
import Derived.Shelf.Sort.Plain
import Derived.Shelf.Slices.In.SortNone
import Derived.Shelf.Slices.CompactI
import Derived.Shelf.Spec.SlicesInsertGrow
import Derived.Test.YtcihgbflbmhkbaaGreatMxJog
set_option linter.unusedSimpArgs false
set_option linter.unusedVariables false
namespace Go.Proofs.YtcihgbflbmhkbaaGreat.fnJournals
open Go.ChangeShapes Go.WideShapes Go.ChangeAt Go.RowKit
set_option linter.unusedVariables false
def num:List (Nat×Nat):=[(36,9),(124,47),(131,68),(125,69),(132,58),(133,79),(43,56),(474,146),(241,275),(238,213),(180,148),(277,211),(91,210),(459,270),(460,271),(488,316),(472,302),(461,272),(22,273),(462,274),(439,212),(405,147),(247,276),(197,214),(475,149),(466,57),(446,16),(98,116),(186,141),(90,198),(183,208),(276,301),(242,269),(187,209),(88,142),(226,143),(227,144),(149,54),(432,14),(219,77),(196,78),(283,27),(99,194),(221,196),(139,114),(202,242),(248,290),(201,243),(167,186),(206,197),(140,115),(142,188),(141,244),(52,187),(122,291),(34,245),(100,246),(60,189),(75,107),(146,117),(58,44),(300,180),(301,181),(278,102),(282,103),(181,240),(81,182),(302,183),(279,104),(243,289),(184,241),(84,184),(280,105),(86,185),(281,106),(468,39),(113,93),(175,122),(185,199),(174,200),(244,121),(519,166),(516,94),(24,155),(67,112),(10,218),(518,156),(515,67),(505,19),(40,20),(134,123),(44,48),(200,91),(477,127),(476,126),(239,266),(233,205),(155,129),(275,203),(161,216),(160,217),(72,152),(485,312),(470,298),(452,258),(20,259),(453,260),(234,138),(156,50),(454,261),(486,313),(471,299),(455,262),(457,134),(456,263),(23,264),(458,265),(437,204),(401,128),(478,130),(479,131),(492,267),(490,206),(480,132),(481,133),(482,135),(483,136),(128,154),(484,137),(467,49),(447,11),(101,59),(147,118),(165,60),(89,119),(164,150),(272,277),(235,215),(166,151),(74,61),(271,153),(228,62),(229,63),(150,17),(433,12),(199,92),(95,33),(270,161),(220,82),(442,83),(163,84),(412,29),(230,190),(231,192),(152,110),(249,285),(203,233),(236,234),(168,174),(169,175),(207,193),(153,111),(170,177),(222,235),(223,236),(143,176),(76,100),(148,120),(59,45),(413,167),(431,169),(441,170),(409,95),(411,96),(157,230),(70,171),(410,97),(240,284),(182,231),(83,172),(428,98),(162,232),(73,173),(429,99),(469,37),(451,36),(105,157),(13,70),(65,41),(450,71),(114,72),(506,21),(138,73),(51,22),(151,108),(205,191),(102,109),(213,278),(123,219),(204,279),(103,220),(61,158),(63,74),(435,23),(159,145),(116,55),(31,15),(421,24),(507,25),(498,4),(135,124),(136,125),(440,168),(487,314),(493,268)]
def tab:List (Nat×Mx.Fn):=[(36,Mx.lF.m),(124,Mx.fP.m),(131,Mx.fk.m),(125,Mx.bu.m),(132,Mx.bj.m),(133,Mx.b9.m),(43,Mx.aU.m),(474,Mx.gk.m),(241,Mx.iq.m),(238,Mx.fU.m),(180,Mx.cd.m),(277,Mx.iB.m),(91,Mx.bT.m),(459,Mx.il.m),(460,Mx.dq.m),(488,Mx.gH.m),(472,Mx.ec.m),(461,Mx.fJ.m),(22,Mx.dR.m),(462,Mx.cW.m),(439,Mx.da.m),(405,Mx.eV.m),(247,Mx.gX.m),(197,Mx.db.m),(475,Mx.cE.m),(466,Mx.aY.m),(446,Mx.bQ.m),(98,Mx.bR.m),(186,Mx.cD.m),(90,Mx.dZ.m),(183,Mx.gG.m),(276,Mx.jl.m),(242,Mx.dJ.m),(187,Mx.d_.m),(88,Mx.bE.m),(226,Mx.cH.m),(227,Mx.b5.m),(149,Mx.aL.m),(432,Mx.fu.m),(219,Mx.cu.m),(196,Mx.dC.m),(283,Mx.dK.m),(99,Mx.bH.m),(221,Mx.cv.m),(139,Mx.cJ.m),(202,Mx.iu.m),(248,Mx.cN.m),(201,Mx.jE.m),(167,Mx.fb.m),(206,Mx.dX.m),(140,Mx.gM.m),(142,Mx.eE.m),(141,Mx.dz.m),(52,Mx.bX.m),(122,Mx.eQ.m),(34,Mx.dv.m),(100,Mx.ig.m),(60,Mx.ch.m),(75,Mx.bl.m),(146,Mx.fj.m),(58,Mx.aX.m),(300,Mx.eU.m),(301,Mx.dY.m),(278,Mx.b4.m),(282,Mx.cL.m),(181,Mx.gn.m),(81,Mx.eH.m),(302,Mx.eK.m),(279,Mx.dI.m),(243,Mx.jm.m),(184,Mx.cP.m),(84,Mx.dS.m),(280,Mx.dA.m),(86,Mx.du.m),(281,Mx.dB.m),(468,Mx.cF.m),(113,Mx.fI.m),(175,Mx.iM.m),(185,Mx.eG.m),(174,Mx.gF.m),(244,Mx.bc.m),(519,Mx.bB.m),(516,Mx.dy.m),(24,Mx.jd.m),(67,Mx.gN.m),(10,Mx.fF.m),(518,Mx.gB.m),(515,Mx.fi.m),(505,Mx.iD.m),(40,Mx.cV.m),(134,Mx.fc.m),(44,Mx.fM.m),(200,Mx.aB.m),(477,Mx.eX.m),(476,Mx.eY.m),(239,Mx.gP.m),(233,Mx.eR.m),(155,Mx.cB.m),(275,Mx.gm.m),(161,Mx.aC.m),(160,Mx.gS.m),(72,Mx.cK.m),(485,Mx.iw.m),(470,Mx.eC.m),(452,Mx.fL.m),(20,Mx.jq.m),(453,Mx.aD.m),(234,Mx.bU.m),(156,Mx.aI.m),(454,Mx.hZ.m),(486,Mx.ar.m),(471,Mx.aM.m),(455,Mx.aV.m),(457,Mx.fm.m),(456,Mx.hQ.m),(23,Mx.dU.m),(458,Mx.hO.m),(437,Mx.b7.m),(401,Mx.gZ.m),(478,Mx.aF.m),(479,Mx.fC.m),(492,Mx.ay.m),(490,Mx.aP.m),(480,Mx.a_.m),(481,Mx.fB.m),(482,Mx.bh.m),(483,Mx.fA.m),(128,Mx.dx.m),(484,Mx.cM.m),(467,Mx.bz.m),(447,Mx.bG.m),(101,Mx.bV.m),(147,Mx.gD.m),(165,Mx.dw.m),(89,Mx.ev.m),(164,Mx.gI.m),(272,Mx.jn.m),(235,Mx.dL.m),(166,Mx.e_.m),(74,Mx.bJ.m),(271,Mx.fH.m),(228,Mx.dW.m),(229,Mx.cS.m),(150,Mx.aJ.m),(433,Mx.fw.m),(199,Mx.jf.m),(95,Mx.gV.m),(270,Mx.eW.m),(220,Mx.b6.m),(442,Mx.bd.m),(163,Mx.jG.m),(412,Mx.fZ.m),(230,Mx.cU.m),(231,Mx.cy.m),(152,Mx.bY.m),(249,Mx.cO.m),(203,Mx.jH.m),(236,Mx.ij.m),(168,Mx.fe.m),(169,Mx.ee.m),(207,Mx.dk.m),(153,Mx.eN.m),(170,Mx.dE.m),(222,Mx.fG.m),(223,Mx.eh.m),(143,Mx.dF.m),(76,Mx.bI.m),(148,Mx.fX.m),(59,Mx.aO.m),(413,Mx.fQ.m),(431,Mx.ep.m),(441,Mx.gr.m),(409,Mx.dh.m),(411,Mx.ei.m),(157,Mx.gu.m),(70,Mx.eI.m),(410,Mx.fq.m),(240,Mx.jo.m),(182,Mx.cQ.m),(83,Mx.dV.m),(428,Mx.fg.m),(162,Mx.a7.m),(73,Mx.fY.m),(429,Mx.fh.m),(469,Mx.cY.m),(451,Mx.gU.m),(105,Mx.dG.m),(13,Mx.cR.m),(65,Mx.ff.m),(450,Mx.fo.m),(114,Mx.gQ.m),(506,Mx.cX.m),(138,Mx.iE.m),(51,Mx.iF.m),(151,Mx.fW.m),(205,Mx.gh.m),(102,Mx.jF.m),(213,Mx.eS.m),(123,Mx.fp.m),(204,Mx.kO.m),(103,Mx.iY.m),(61,Mx.dj.m),(63,Mx.gY.m),(435,Mx.ik.m),(159,Mx.cq.m),(116,Mx.bS.m),(31,Mx.dg.m),(421,Mx.fV.m),(507,Mx.jr.m),(498,Mx.eM.m)]
def F:Nat→FuncId:=Mx.N8 num
def exts:List (Nat×(List Mx.V→List (Nat×Mx.Ob)→Option (Mx.V×List (Nat×Mx.Ob)))):=[(135,Mx.vE),(136,Mx.oT),(440,Mx.CN)]
def M:Nat→Option Mx.Body:=Mx.KH tab exts
def rho20:Go.Shelf.Ren:={f:=fun n=>if n=20 then 125 else n,t:=fun n=>if n=22 then 25 else n,g:=fun n=>n}
theorem lays20:Go.Proofs.Lays2.n20 Tryz.prog rho20 where
 mixed:=by kernel_rfl
 f20:=Tryz.func125.trans (congrArg some (by kernel_rfl))
 t0:=by kernel_rfl
 a0:=fun w=>by kernel_rfl
 z0:=fun w=>by kernel_rfl
 v0:=fun w=>by kernel_rfl
 t3:=by kernel_rfl
 a3:=fun w=>by kernel_rfl
 z3:=fun w=>by kernel_rfl
 v3:=fun w=>by kernel_rfl
 t4:=by kernel_rfl
 a4:=fun w=>by kernel_rfl
 z4:=fun w=>by kernel_rfl
 v4:=fun w=>by kernel_rfl
 t22:=by kernel_rfl
 a22:=fun w=>by kernel_rfl
 z22:=fun w=>by kernel_rfl
 v22:=fun w=>by kernel_rfl
 i3:=by kernel_rfl
def rho189:Go.Shelf.Ren:={f:=fun n=>if n=189 then 124 else if n=125 then 202 else if n=257 then 201 else if n=128 then 256 else if n=129 then 257 else if n=294 then 247 else if n=295 then 248 else if n=296 then 249 else if n=297 then 250 else if n=298 then 251 else if n=299 then 252 else if n=216 then 253 else if n=300 then 254 else if n=301 then 255 else if n=328 then 292 else if n=329 then 293 else if n=330 then 294 else if n=331 then 295 else if n=332 then 296 else if n=215 then 297 else if n=343 then 311 else n,t:=fun n=>if n=28 then 25 else if n=46 then 151 else if n=51 then 210 else if n=53 then 232 else if n=183 then 223 else if n=182 then 222 else if n=131 then 228 else if n=218 then 255 else if n=222 then 259 else if n=228 then 268 else if n=229 then 269 else n,g:=fun n=>n}
theorem lays189:Go.Proofs.Lays.n189 Tryz.prog rho189 where
 mixed:=by kernel_rfl
 f125:=Tryz.func202.trans (congrArg some (by kernel_rfl))
 f128:=Tryz.func256.trans (congrArg some (by kernel_rfl))
 f129:=Tryz.func257.trans (congrArg some (by kernel_rfl))
 f189:=Tryz.func124.trans (congrArg some (by kernel_rfl))
 f215:=Tryz.func297.trans (congrArg some (by kernel_rfl))
 f216:=Tryz.func253.trans (congrArg some (by kernel_rfl))
 f257:=Tryz.func201.trans (congrArg some (by kernel_rfl))
 f294:=Tryz.func247.trans (congrArg some (by kernel_rfl))
 f295:=Tryz.func248.trans (congrArg some (by kernel_rfl))
 f296:=Tryz.func249.trans (congrArg some (by kernel_rfl))
 f297:=Tryz.func250.trans (congrArg some (by kernel_rfl))
 f298:=Tryz.func251.trans (congrArg some (by kernel_rfl))
 f299:=Tryz.func252.trans (congrArg some (by kernel_rfl))
 f300:=Tryz.func254.trans (congrArg some (by kernel_rfl))
 f301:=Tryz.func255.trans (congrArg some (by kernel_rfl))
 f328:=Tryz.func292.trans (congrArg some (by kernel_rfl))
 f329:=Tryz.func293.trans (congrArg some (by kernel_rfl))
 f330:=Tryz.func294.trans (congrArg some (by kernel_rfl))
 f331:=Tryz.func295.trans (congrArg some (by kernel_rfl))
 f332:=Tryz.func296.trans (congrArg some (by kernel_rfl))
 f343:=Tryz.func311.trans (congrArg some (by kernel_rfl))
 t0:=by kernel_rfl
 a0:=fun w=>by kernel_rfl
 z0:=fun w=>by kernel_rfl
 v0:=fun w=>by kernel_rfl
 t3:=by kernel_rfl
 a3:=fun w=>by kernel_rfl
 z3:=fun w=>by kernel_rfl
 v3:=fun w=>by kernel_rfl
 t4:=by kernel_rfl
 a4:=fun w=>by kernel_rfl
 z4:=fun w=>by kernel_rfl
 v4:=fun w=>by kernel_rfl
 t5:=by kernel_rfl
 a5:=fun w=>by kernel_rfl
 z5:=fun w=>by kernel_rfl
 v5:=fun w=>by kernel_rfl
 t9:=by kernel_rfl
 a9:=fun w=>by kernel_rfl
 z9:=fun w=>by kernel_rfl
 v9:=fun w=>by kernel_rfl
 t28:=by kernel_rfl
 a28:=fun w=>by kernel_rfl
 z28:=fun w=>by kernel_rfl
 v28:=fun w=>by kernel_rfl
 t46:=by kernel_rfl
 a46:=fun w=>by kernel_rfl
 z46:=fun w=>by kernel_rfl
 v46:=fun w=>by kernel_rfl
 t51:=by kernel_rfl
 a51:=fun w=>by kernel_rfl
 z51:=fun w=>by kernel_rfl
 v51:=fun w=>by kernel_rfl
 t53:=by kernel_rfl
 a53:=fun w=>by kernel_rfl
 z53:=fun w=>by kernel_rfl
 v53:=fun w=>by kernel_rfl
 t131:=by kernel_rfl
 a131:=fun w=>by kernel_rfl
 z131:=fun w=>by kernel_rfl
 v131:=fun w=>by kernel_rfl
 t182:=by kernel_rfl
 a182:=fun w=>by kernel_rfl
 z182:=fun w=>by kernel_rfl
 v182:=fun w=>by kernel_rfl
 t183:=by kernel_rfl
 a183:=fun w=>by kernel_rfl
 z183:=fun w=>by kernel_rfl
 v183:=fun w=>by kernel_rfl
 t218:=by kernel_rfl
 a218:=fun w=>by kernel_rfl
 z218:=fun w=>by kernel_rfl
 v218:=fun w=>by kernel_rfl
 t222:=by kernel_rfl
 a222:=fun w=>by kernel_rfl
 z222:=fun w=>by kernel_rfl
 v222:=fun w=>by kernel_rfl
 t228:=by kernel_rfl
 a228:=fun w=>by kernel_rfl
 z228:=fun w=>by kernel_rfl
 v228:=fun w=>by kernel_rfl
 t229:=by kernel_rfl
 a229:=fun w=>by kernel_rfl
 z229:=fun w=>by kernel_rfl
 v229:=fun w=>by kernel_rfl
theorem ext135:Mx.wv Tryz.prog F 135 Mx.vE:=
 Mx.G1 (by kernel_rfl) (fun p cap w=>Go.Proofs.Any.slices_Sort_int_none lays189 p cap w) (fun kS off cap zs w h1 h2 h3=>Go.Proofs.Any.slices_Sort_int lays189 kS off cap zs w h1 h2 h3)
theorem ext136:Mx.wv Tryz.prog F 136 Mx.oT:=
 Mx.By (by kernel_rfl) (fun p cap w=>Go.Proofs.Any.slices_Compact_int_empty lays20 p cap w) (fun kS off cap zs w h1 h2 h3=>Go.Proofs.Any.slices_Compact_int lays20 kS off cap zs w h1 h2 h3) Mx.BC
section
open Go.Shelf Go.RowKit Go.Lib Go.Proofs
theorem run_copy_cellsK{P:Program}(w:World)(dT sT ty elem:TypeId)(k:Nat)(b o dLen dCap:Nat)(a:Addr)(sLen sCap:Nat)(cs:List Value)
  (hu:P.underlying dT=some (.slice elem)) (hs:(P.info? elem).map (·.size)=some k) (hn:cs.length=Nat.min sLen dLen*k)
  (hsrc:∀j v,cs[j]? =some v→w.cell? (a.add j)=some v) (hc:∀j,j<cs.length→(w.cell? ⟨b,o+j,none⟩).isSome=true) (hf:∀j,j<cs.length→w.frozen? ⟨b,o+j,none⟩=false) (h1:∀v∈cs,v.oneCell'=true):
  (Builtin.copy_ #[dT,sT] ty #[.slice (some ⟨b,o,none⟩) dLen dCap,.slice (some a) sLen sCap]).run P w= .ok (goInt (Nat.min sLen dLen)) (w.setCells b o cs):=by
 have hl:=run_loadCells_list (P:=P) w a cs hsrc;have hst:=run_storeCells_cells (P:=P) b o cs 0 w (by simpa using hc) (by simpa using hf) h1;cases hq:P.info? elem with
 |none=>simp[hq] at hs
 |some i=>
  have hi:i.size=k:=by simpa [hq] using hs
  rw[hn] at hl;simp[Builtin.copy_,run_underlying hu,Builtin.lenOf,Builtin.firstCells,sizeOf,typeInfo,hq,hi,hl,hst]
theorem t24:Tryz.prog.underlying 24=some (.slice 55):=by kernel_rfl
theorem t3:Tryz.prog.underlying 3=some (.int .i64):=by kernel_rfl
theorem t4:Tryz.prog.underlying 4=some .bool:=by kernel_rfl
theorem a24(w:World):(isAgg 24).run Tryz.prog w= .ok false w:=by kernel_rfl
theorem a3(w:World):(isAgg 3).run Tryz.prog w= .ok false w:=by kernel_rfl
theorem a4(w:World):(isAgg 4).run Tryz.prog w= .ok false w:=by kernel_rfl
theorem z55(w:World):(Go.sizeOf 55).run Tryz.prog w= .ok 7 w:=by kernel_rfl
theorem z24(w:World):(Go.sizeOf 24).run Tryz.prog w= .ok 1 w:=by kernel_rfl
theorem z3(w:World):(Go.sizeOf 3).run Tryz.prog w= .ok 1 w:=by kernel_rfl
theorem v24(w:World):(zeroValue 24).run Tryz.prog w= .ok (.slice none 0 0) w:=by kernel_rfl
theorem v3(w:World):(zeroValue 3).run Tryz.prog w= .ok (.int .i64 0) w:=by kernel_rfl
theorem sz55:(Tryz.prog.info? 55).map (·.size)=some 7:=by kernel_rfl
theorem mixed:Tryz.prog.follows .mixedOrders=true:=by kernel_rfl
set_option maxHeartbeats 4000000 in
set_option maxRecDepth 100000 in
theorem ins_shift(b n c i vb vc:Nat)(cs vs:List Value)(w:World)(hi:i<n)(hroom:n+1≤c)(hbn:n≤1048576)(hvb:vb≠b)
  (hcl:cs.length=n*7) (hvl:vs.length=7)
  (hcs:∀j v,cs[j]? =some v→w.cell? ⟨b,j,none⟩=some v) (hsp:∀j,j<(n+1)*7→(w.cell? ⟨b,j,none⟩).isSome=true) (hfz:∀j,j<(n+1)*7→w.frozen? ⟨b,j,none⟩=false)
  (hvs:∀j v,vs[j]? =some v→w.cell? ⟨vb,j,none⟩=some v) (h1c:∀v∈cs,v.oneCell'=true) (h1v:∀v∈vs,v.oneCell'=true)
  (tA tB:TypeId) (kA kB:Nat) (hsa:w.shape? vb=some (tA,kA)) (hsb:w.shape? b=some (tB,kB)) (hkB:kB≠0) (hfa:w.frozen? ⟨vb,0,none⟩=false) (hfe:w.frozen? ⟨vb,kA,none⟩=false):
  Calls Tryz.prog 168 #[.slice (some ⟨b,0,none⟩) n c,.int .i64 i,.slice (some ⟨vb,0,none⟩) 1 vc] w fun e w'=>
   e= .returned (.slice (some ⟨b,0,none⟩) (n+1) c)∧w'=(w.drew.setCells b ((i+1)*7) (cs.drop (i*7))).setCells b (i*7) vs:=by
 have u3:=run_underlying t3;have u4:=run_underlying t4;have u24:=run_underlying t24;have t24:=t24;have a24:=a24;have a3:=a3;have a4:=a4;have z55:=z55;have z24:=z24;have z3:=z3;have v24:=v24;have v3:=v3;have mixed:=mixed;have hz2:¬((i:Int)=(n:Int)):=by omega
 have hov:∀lb cb,(callFunc 228 #[.slice (some ⟨vb,0,none⟩) 1 vc,.slice (some ⟨b,(i+1)*7,none⟩) lb cb]).run Tryz.prog w= .ok (.value (.bool false)) w:=fun lb cb=>by
  rw[run_callFunc_extern Tryz.func228 (by kernel_rfl) (by kernel_rfl) (by kernel_rfl) (e:=Extern.SlicesOverlaps.overlaps #[24,24] #[4]) (by kernel_rfl),
   Lib.run_overlaps_apart w 24 4 55 t24 7 z55 ⟨vb,0,none⟩ ⟨b,(i+1)*7,none⟩ 1 vc lb cb hvb tA tB kA kB hsa hsb hkB hfa hfe]
  rfl
 have hdl:(cs.drop (i*7)).length=(n-i)*7:=by rw[List.length_drop,hcl];omega
 have hw1:IntKind.i64.wrap ((i:Int)+1)=(i:Int)+1:=by rw[IntKind.wrap_i64];omega
 have hb1:(0:Int)≤(i:Int)+1:=by omega
 have hin:i≤n:=by omega
 have htn:((i:Int)+1).toNat=i+1:=by omega
 have hb2:¬(c=i+1):=by omega
 have hb3:(i:Int)≤(n:Int)+1:=by omega
 have hb4:¬(c=i):=by omega
 have hcp1:∀ty dc sc,(Builtin.copy_ #[24,24] ty #[.slice (some ⟨b,(i+1)*7,none⟩) (n-i) dc,.slice (some ⟨b,i*7,none⟩) (n+1-i) sc]).run Tryz.prog w.drew= .ok (goInt (Nat.min (n+1-i) (n-i))) (w.drew.setCells b ((i+1)*7) (cs.drop (i*7))):=fun ty dc sc=>
  run_copy_cellsK w.drew _ _ ty 55 7 b ((i+1)*7) (n-i) dc ⟨b,i*7,none⟩ (n+1-i) sc (cs.drop (i*7)) t24 sz55 (by rw[hdl];simp only[Nat.min_def];split<;>omega)
   (fun j v hj=>by rw[Addr.add_lit];exact hcs (i*7+j) v (by rwa [List.getElem?_drop] at hj))
   (fun j hj=>hsp _ (by omega)) (fun j hj=>hfz _ (by omega)) (fun v hv=>h1c v (List.mem_of_mem_drop hv))
 obtain⟨W1,hW1⟩:∃W1,W1=w.drew.setCells b ((i+1)*7) (cs.drop (i*7)):=⟨_,rfl⟩
 have hsp1:∀k,k<(n+1)*7→(W1.cell? ⟨b,k,none⟩).isSome=true:=fun k hk=>by
  rw[hW1];exact isSome_setCells b (cs.drop (i*7)) ((i+1)*7) w.drew (fun j hj=>hsp _ (by omega)) _ (hsp k hk)
 have hcp2:∀(W:World),(∀x,W.cell? x=W1.cell? x)→(∀x,W.frozen? x=W1.frozen? x)→∀ty dc,(Builtin.copy_ #[24,24] ty #[.slice (some ⟨b,i*7,none⟩) (n+1-i) dc,.slice (some ⟨vb,0,none⟩) 1 vc]).run Tryz.prog W= .ok (goInt (Nat.min 1 (n+1-i))) (W.setCells b (i*7) vs):=fun W hWc hWf ty dc=>
  run_copy_cellsK W _ _ ty 55 7 b (i*7) (n+1-i) dc ⟨vb,0,none⟩ 1 vc vs t24 sz55 (by rw[hvl];simp only[Nat.min_def];split<;>omega)
   (fun j v hj=>by
    rw[Addr.add_lit,hWc,hW1,World.cell?_setCells_out b _ _ _ _ (fun h _=>absurd h hvb),Nat.zero_add];exact hvs j v hj)
   (fun j hj=>by rw[hWc];exact hsp1 _ (by omega)) (fun j hj=>by rw[hWf,hW1,World.frozen?_setCells];exact hfz _ (by omega)) h1v
 rw[←hW1] at hcp1
 go_enter Tryz.func168,Tryz.ntmps168
 go_wp2_with (simp only[hov])
 go_region_law_o (refine step_copy_runI rfl _ _ 24 24 rfl _ _ (by simp[Act.eval,Act.put]) (by simp[Act.eval,Act.put]) (hcp1 _ _ _) ?_)
 go_wp2_with (at_builtin;refine wpList_copy_runI _ rfl _ _ 24 24 rfl _ _ rfl rfl (hcp2 _ (fun _=>rfl) (fun _=>rfl) _ _) ?_)
 go_ret
 first|exact⟨rfl,rfl⟩|exact⟨rfl,by rw[hW1]⟩
set_option maxHeartbeats 4000000 in
set_option maxRecDepth 100000 in
theorem ins_end(base:Option Addr)(n c vb vc:Nat)(w w1:World)(val:Value)(hbn:base=none→n=0)(hb0:∀a,base=some a→∃b,a=⟨b,0,none⟩)(hn:n≤c)
  (hrun:∀ty,(Builtin.append_ #[24,24] ty #[.slice base n c,.slice (some ⟨vb,0,none⟩) 1 vc]).run Tryz.prog w= .ok val w1):
  Calls Tryz.prog 168 #[.slice base n c,.int .i64 n,.slice (some ⟨vb,0,none⟩) 1 vc] w fun e w'=>e= .returned val∧w'=w1:=by
 have u3:=run_underlying t3;have u4:=run_underlying t4;have u24:=run_underlying t24;have t24:=t24;have a24:=a24;have a3:=a3;have a4:=a4;have z55:=z55;have z24:=z24;have z3:=z3;have v24:=v24;have v3:=v3;have mixed:=mixed
 go_enter Tryz.func168,Tryz.ntmps168
 cases base with
 |none=>
  have h0:=hbn rfl;subst h0
  go_wp2_with (at_builtin;refine Lib.wpList_append_run _ rfl _ _ _ _ rfl _ _ rfl rfl _ _ (hrun _) ?_)
  go_ret
  exact⟨rfl,rfl⟩
 |some a=>
  obtain⟨b,rfl⟩:=hb0 a rfl
  go_wp2_with (at_builtin;refine Lib.wpList_append_run _ rfl _ _ _ _ rfl _ _ rfl rfl _ _ (hrun _) ?_)
  all_goals (go_ret;exact⟨rfl,rfl⟩)
theorem info55:∃i z,Tryz.prog.info? 55=some i∧i.zero=some z∧i.size=7∧i.bytes≤4096∧z.cells.size=7:=by
 have h:(match Tryz.prog.info? 55 with|some i=>(match i.zero with|some z=>i.size==7&&decide (i.bytes≤4096)&&z.cells.size==7|none=>false)|none=>false)=true:=by kernel_rfl
 split at h
 ·rename_i i hi;split at h
  ·rename_i z hz;simp only[Bool.and_eq_true,beq_iff_eq,decide_eq_true_eq] at h;exact⟨i,z,hi,hz,h.1.1,h.1.2,h.2⟩
  ·cases h
 ·cases h
set_option maxHeartbeats 4000000 in
set_option maxRecDepth 100000 in
theorem ins_grow(b n c i vb vc:Nat)(cs vs:List Value)(w:World)(hi:i<n)(hnc:n≤c)(hroom:c<n+1)(hbig:n≤1048576)
  (hcl:cs.length=n*7) (hvl:vs.length=7)
  (hcs:∀j v,cs[j]? =some v→w.cell? ⟨b,j,none⟩=some v)
  (hvs:∀j v,vs[j]? =some v→w.cell? ⟨vb,j,none⟩=some v) (h1c:∀v∈cs,v.oneCell'=true) (h1v:∀v∈vs,v.oneCell'=true):
  Calls Tryz.prog 168 #[.slice (some ⟨b,0,none⟩) n c,.int .i64 i,.slice (some ⟨vb,0,none⟩) 1 vc] w fun e w'=>
   ∃(G:Nat) (row:Array Value),n+1≤G∧row.size=G*7∧e= .returned (.slice (some ⟨w.heap.size,0,none⟩) (n+1) G)∧(∀j,j<i*7→row[j]? =cs[j]?)∧
   w'=(((w.alloc (.cells row 55)).drew.setCells w.heap.size (i*7) vs).drew).setCells w.heap.size ((i+1)*7) (cs.drop (i*7)):=by
 have u3:=run_underlying t3;have u4:=run_underlying t4;have u24:=run_underlying t24;have t3:=t3;have t24:=t24;have a24:=a24;have a3:=a3;have a4:=a4;have z55:=z55;have z24:=z24;have z3:=z3;have v24:=v24;have v3:=v3;have mixed:=mixed;obtain⟨i0,z0,hi0,hz0,hzs,hzb,hzc⟩:=info55;have hz2:¬((i:Int)=(n:Int)):=by omega
 have hz3:(c:Int)<(n:Int)+1:=by omega
 have hbw:b<w.heap.size:=block_lt_of_cell (hcs 0 _ (List.getElem?_eq_getElem (by omega)));have hvw:vb<w.heap.size:=block_lt_of_cell (hvs 0 _ (List.getElem?_eq_getElem (by omega)));have hkk:(n:Int)+1-(i:Int)=((n+1-i:Nat):Int):=by omega
 have hik:i+(n+1-i)=n+1:=by omega
 have htl:(cs.take (i*7)).length=i*7:=by rw[List.length_take,hcl];omega
 have hold:(Builtin.firstCells i0.size i (.slice (some ⟨b,0,none⟩) i c)).run Tryz.prog w.drew= .ok (cs.take (i*7)).toArray w.drew:=by
  rw[hzs];exact run_firstCells_some w.drew 7 i ⟨b,0,none⟩ i c (cs.take (i*7)) (by rw[htl]) (fun j v hj=>by
   rw[Addr.add_lit,Nat.zero_add];rw[List.getElem?_take] at hj;split at hj
   ·exact hcs j v hj
   ·cases hj)
 have hfit:Builtin.nextslicecap (n+1) c*i0.bytes≤281474976710656:=by
  refine growslice_fits hroom ?_
  calc (n+1)*i0.bytes≤1048577*4096:=Nat.mul_le_mul (by omega) hzb
   _≤140737488355328:=by decide
 have hrz:∀ty,(Builtin.append_ #[24,3] ty #[.slice (some ⟨b,0,none⟩) i c,.int .i64 ((n:Int)+1-(i:Int))]).run Tryz.prog w=
   .ok (.slice (some ⟨w.heap.size,0,none⟩) (n+1) (grownCap w (n+1) c 55)) (w.drew.alloc (.cells ((cs.take (i*7)).toArray++Builtin.zeroCells z0.cells (n+1-i)++Builtin.zeroCells z0.cells (grownCap w (n+1) c 55-(n+1))) 55)):=fun ty=>by
  have h:=Lib.run_append_grow_zeros w 24 3 ty 55 i0 _ .i64 .i64 t24 t3 hi0 hz0 (some ⟨b,0,none⟩) i c (cs.take (i*7)) hold (n+1-i) (by omega) (by omega) (by omega) (by omega) (by
   calc (n+1-i)*i0.bytes≤1048577*4096:=Nat.mul_le_mul (by omega) hzb
    _≤281474976710656:=by decide) (by rw[hik];exact hfit)
  rw[hik] at h;rw[hkk];exact h
 obtain⟨G,hG⟩:∃G,G=grownCap w (n+1) c 55:=⟨_,rfl⟩
 have hGn:n+1≤G:=by rw[hG];exact grownCap_ge w _ _ _
 have hG63:G≤9223372036854775807:=by
  have:=grownCap_le_maxLen w (n+1) c 55 (by unfold maxLen;omega);rw[←hG] at this;unfold maxLen at this;omega
 obtain⟨ROW,hROW⟩:∃ROW:Array Value,ROW=(cs.take (i*7)).toArray++Builtin.zeroCells z0.cells (n+1-i)++Builtin.zeroCells z0.cells (G-(n+1)):=⟨_,rfl⟩
 rw[←hG] at hrz;rw[←hROW] at hrz;have hRs:ROW.size=G*7:=by
  rw[hROW];simp only[Builtin.zeroCells,Array.size_append,List.size_toArray,htl,hzc,Array.size_map,Array.size_range];omega
 have hRt:∀j,j<i*7→ROW[j]? =cs[j]? :=fun j hj=>by
  rw[hROW,Array.append_assoc,Array.getElem?_append_left (by simp;omega)];rw[List.getElem?_toArray,List.getElem?_take,if_pos hj]
 have hRl:(n+1)*7≤ROW.size:=by rw[hRs];exact Nat.mul_le_mul_right 7 hGn
 obtain⟨W1,hW1⟩:∃W1,W1=w.drew.alloc (.cells ROW 55):=⟨_,rfl⟩
 rw[←hW1] at hrz;have hN:∀j,j<(n+1)*7→(W1.cell? ⟨w.heap.size,j,none⟩).isSome=true:=fun j hj=>by
  rw[hW1,World.cell?_alloc_at (w:=w.drew) ROW _ w.heap.size j rfl,Array.getElem?_eq_getElem (by omega)];rfl
 have hNf:∀j,W1.frozen? ⟨w.heap.size,j,none⟩=false:=fun j=>by rw[hW1];exact World.frozen?_alloc_at (w:=w.drew) ROW _ w.heap.size j rfl
 have hOb:∀j v,w.cell? ⟨b,j,none⟩=some v→W1.cell? ⟨b,j,none⟩=some v:=fun j v h=>by rw[hW1,World.cell?_alloc_past (w:=w.drew) _ b j hbw];exact h
 have hOv:∀j v,w.cell? ⟨vb,j,none⟩=some v→W1.cell? ⟨vb,j,none⟩=some v:=fun j v h=>by rw[hW1,World.cell?_alloc_past (w:=w.drew) _ vb j hvw];exact h
 have hcpA:∀(W:World),(∀x,W.cell? x=W1.cell? x)→(∀x,W.frozen? x=W1.frozen? x)→∀ty dc,(Builtin.copy_ #[24,24] ty #[.slice (some ⟨w.heap.size,i*7,none⟩) (n+1-i) dc,.slice (some ⟨vb,0,none⟩) 1 vc]).run Tryz.prog W= .ok (goInt (Nat.min 1 (n+1-i))) (W.setCells w.heap.size (i*7) vs):=fun W hWc hWf ty dc=>
  run_copy_cellsK W _ _ ty 55 7 w.heap.size (i*7) (n+1-i) dc ⟨vb,0,none⟩ 1 vc vs t24 sz55 (by rw[hvl];simp only[Nat.min_def];split<;>omega)
   (fun j v hj=>by rw[Addr.add_lit,hWc,Nat.zero_add];exact hOv _ v (hvs j v hj))
   (fun j hj=>by rw[hWc];exact hN _ (by omega)) (fun j hj=>by rw[hWf];exact hNf _) h1v
 have hGi:¬(G=i):=by omega
 have hGim:¬(G=i+1):=by omega
 have hci:¬(c=i):=by omega
 have hbN:b≠w.heap.size:=by omega
 have hdl:(cs.drop (i*7)).length=(n-i)*7:=by rw[List.length_drop,hcl];omega
 have hcpB:∀(W:World),(∀x,W.cell? x=(W1.setCells w.heap.size (i*7) vs).cell? x)→(∀x,W.frozen? x=(W1.setCells w.heap.size (i*7) vs).frozen? x)→∀ty dc sc,(Builtin.copy_ #[24,24] ty #[.slice (some ⟨w.heap.size,(i+1)*7,none⟩) (n-i) dc,.slice (some ⟨b,i*7,none⟩) (n-i) sc]).run Tryz.prog W= .ok (goInt (Nat.min (n-i) (n-i))) (W.setCells w.heap.size ((i+1)*7) (cs.drop (i*7))):=fun W hWc hWf ty dc sc=>
  run_copy_cellsK W _ _ ty 55 7 w.heap.size ((i+1)*7) (n-i) dc ⟨b,i*7,none⟩ (n-i) sc (cs.drop (i*7)) t24 sz55 (by rw[hdl];simp)
   (fun j v hj=>by
    rw[Addr.add_lit,hWc,World.cell?_setCells_out _ _ _ _ _ (fun h _=>absurd h hbN)];exact hOb _ v (hcs (i*7+j) v (by rwa [List.getElem?_drop] at hj)))
   (fun j hj=>by rw[hWc];exact isSome_setCells w.heap.size vs (i*7) W1 (fun t ht=>hN _ (by omega)) _ (hN _ (by omega)))
   (fun j hj=>by rw[hWf,World.frozen?_setCells];exact hNf _) (fun v hv=>h1c v (List.mem_of_mem_drop hv))
 subst hW1;have hE1:∀x,((w.alloc (.cells ROW 55)).drew).cell? x=(w.drew.alloc (.cells ROW 55)).cell? x:=fun x=>rfl
 have hE2:∀x,((w.alloc (.cells ROW 55)).drew).frozen? x=(w.drew.alloc (.cells ROW 55)).frozen? x:=fun x=>rfl
 have hF1:∀x,(((w.alloc (.cells ROW 55)).drew.setCells w.heap.size (i*7) vs).drew).cell? x=((w.drew.alloc (.cells ROW 55)).setCells w.heap.size (i*7) vs).cell? x:=fun x=>rfl
 have hF2:∀x,(((w.alloc (.cells ROW 55)).drew.setCells w.heap.size (i*7) vs).drew).frozen? x=((w.drew.alloc (.cells ROW 55)).setCells w.heap.size (i*7) vs).frozen? x:=fun x=>rfl
 have hw1:IntKind.i64.wrap ((i:Int)+1)=(i:Int)+1:=by rw[IntKind.wrap_i64];omega
 have hb1:(0:Int)≤(i:Int)+1:=by omega
 have hin:i≤n:=by omega
 have htn:((i:Int)+1).toNat=i+1:=by omega
 have hb3:(i:Int)≤(n:Int):=by omega
 have hfin:∀e w',(e=Ending.returned (.slice (some ⟨w.heap.size,0,none⟩) (n+1) G)∧w'=(((w.alloc (.cells ROW 55)).drew.setCells w.heap.size (i*7) vs).drew).setCells w.heap.size ((i+1)*7) (cs.drop (i*7)))→∃(G:Nat) (row:Array Value),n+1≤G∧row.size=G*7∧e= .returned (.slice (some ⟨w.heap.size,0,none⟩) (n+1) G)∧(∀j,j<i*7→row[j]? =cs[j]?)∧
   w'=(((w.alloc (.cells row 55)).drew.setCells w.heap.size (i*7) vs).drew).setCells w.heap.size ((i+1)*7) (cs.drop (i*7)):=fun e w' h=>⟨G,ROW,hGn,hRs,h.1,hRt,h.2⟩
 clear hkk hik hold hROW hG hRl hRt hfit hi0 hz0;refine Calls.mono ?_ hfin;clear hfin
 go_enter Tryz.func168,Tryz.ntmps168
 go_wp2_with (first
  |(at_builtin;refine Lib.wpList_append_run _ rfl _ _ _ _ rfl _ _ rfl rfl _ _ (hrz _) ?_)
  |(at_builtin;refine wpList_copy_runI _ rfl _ _ 24 24 rfl _ _ rfl rfl (hcpA _ hE1 hE2 _ _) ?_)
  |(at_builtin;refine wpList_copy_runI _ rfl _ _ 24 24 rfl _ _ rfl rfl (hcpB _ (fun _=>rfl) (fun _=>rfl) _ _ _) ?_))
 go_region_law_o (refine step_copy_runI rfl _ _ 24 24 rfl (.slice (some ⟨w.heap.size,(i+1)*7,none⟩) (n-i) (G-(i+1))) (.slice (some ⟨b,i*7,none⟩) (n-i) (c-i)) (by simp[Act.eval,Act.put]) (by simp[Act.eval,Act.put]) (hcpB _ hF1 hF2 3 (G-(i+1)) (c-i)) ?_)
 go_wp2
 go_ret
 exact⟨rfl,rfl⟩
end
theorem ext440:Mx.wv Tryz.prog F 440 Mx.CN:=
 Mx.JA (tS:=24) (tE:=55) (bytes:=96) (zero:=[.int .i64 0,.str ⟨#[]⟩,.int .i64 0,.int .i64 0,.int .i64 0,.aK 4,.aK 1]) (by kernel_rfl) (by kernel_rfl) (by kernel_rfl) (by kernel_rfl) (by decide) (by kernel_rfl)
  (fun base n c vb vc w w1 val h1 h2 h3 h4=>ins_end base n c vb vc w w1 val h1 h2 h3 h4)
  (fun b n c i vb vc cs vs w h1 h2 h3 h4 h5 h6 h7 h8 h9 h10 h11 h12 tA tB kA kB h13 h14 h15 h16 h17=>ins_shift b n c i vb vc cs vs w h1 h2 h3 h4 h5 h6 h7 h8 h9 h10 h11 h12 tA tB kA kB h13 h14 h15 h16 h17)
  (fun b n c i vb vc cs vs w h1 h2 h3 h4 h5 h6 h7 h8 h9 h10=>ins_grow b n c i vb vc cs vs w h1 h2 h3 h4 h5 h6 h7 h8 h9 h10)
theorem ok36:Mx.aG Tryz.prog F 36 Mx.lF.m=true:=by kernel_rfl
theorem ok124:Mx.aG Tryz.prog F 124 Mx.fP.m=true:=by kernel_rfl
theorem ok131:Mx.aG Tryz.prog F 131 Mx.fk.m=true:=by kernel_rfl
theorem ok125:Mx.aG Tryz.prog F 125 Mx.bu.m=true:=by kernel_rfl
theorem ok132:Mx.aG Tryz.prog F 132 Mx.bj.m=true:=by kernel_rfl
theorem ok133:Mx.aG Tryz.prog F 133 Mx.b9.m=true:=by kernel_rfl
theorem ok43:Mx.aG Tryz.prog F 43 Mx.aU.m=true:=by kernel_rfl
theorem ok474:Mx.aG Tryz.prog F 474 Mx.gk.m=true:=by kernel_rfl
theorem ok241:Mx.aG Tryz.prog F 241 Mx.iq.m=true:=by kernel_rfl
theorem ok238:Mx.aG Tryz.prog F 238 Mx.fU.m=true:=by kernel_rfl
theorem ok180:Mx.aG Tryz.prog F 180 Mx.cd.m=true:=by kernel_rfl
theorem ok277:Mx.aG Tryz.prog F 277 Mx.iB.m=true:=by kernel_rfl
theorem ok91:Mx.aG Tryz.prog F 91 Mx.bT.m=true:=by kernel_rfl
theorem ok459:Mx.aG Tryz.prog F 459 Mx.il.m=true:=by kernel_rfl
theorem ok460:Mx.aG Tryz.prog F 460 Mx.dq.m=true:=by kernel_rfl
theorem ok488:Mx.aG Tryz.prog F 488 Mx.gH.m=true:=by kernel_rfl
theorem ok472:Mx.aG Tryz.prog F 472 Mx.ec.m=true:=by kernel_rfl
theorem ok461:Mx.aG Tryz.prog F 461 Mx.fJ.m=true:=by kernel_rfl
theorem ok22:Mx.aG Tryz.prog F 22 Mx.dR.m=true:=by kernel_rfl
theorem ok462:Mx.aG Tryz.prog F 462 Mx.cW.m=true:=by kernel_rfl
theorem ok439:Mx.aG Tryz.prog F 439 Mx.da.m=true:=by kernel_rfl
theorem ok405:Mx.aG Tryz.prog F 405 Mx.eV.m=true:=by kernel_rfl
theorem ok247:Mx.aG Tryz.prog F 247 Mx.gX.m=true:=by kernel_rfl
theorem ok197:Mx.aG Tryz.prog F 197 Mx.db.m=true:=by kernel_rfl
theorem ok475:Mx.aG Tryz.prog F 475 Mx.cE.m=true:=by kernel_rfl
theorem ok466:Mx.aG Tryz.prog F 466 Mx.aY.m=true:=by kernel_rfl
theorem ok446:Mx.aG Tryz.prog F 446 Mx.bQ.m=true:=by kernel_rfl
theorem ok98:Mx.aG Tryz.prog F 98 Mx.bR.m=true:=by kernel_rfl
theorem ok186:Mx.aG Tryz.prog F 186 Mx.cD.m=true:=by kernel_rfl
theorem ok90:Mx.aG Tryz.prog F 90 Mx.dZ.m=true:=by kernel_rfl
theorem ok183:Mx.aG Tryz.prog F 183 Mx.gG.m=true:=by kernel_rfl
theorem ok276:Mx.aG Tryz.prog F 276 Mx.jl.m=true:=by kernel_rfl
theorem ok242:Mx.aG Tryz.prog F 242 Mx.dJ.m=true:=by kernel_rfl
theorem ok187:Mx.aG Tryz.prog F 187 Mx.d_.m=true:=by kernel_rfl
theorem ok88:Mx.aG Tryz.prog F 88 Mx.bE.m=true:=by kernel_rfl
theorem ok226:Mx.aG Tryz.prog F 226 Mx.cH.m=true:=by kernel_rfl
theorem ok227:Mx.aG Tryz.prog F 227 Mx.b5.m=true:=by kernel_rfl
theorem ok149:Mx.aG Tryz.prog F 149 Mx.aL.m=true:=by kernel_rfl
theorem ok432:Mx.aG Tryz.prog F 432 Mx.fu.m=true:=by kernel_rfl
theorem ok219:Mx.aG Tryz.prog F 219 Mx.cu.m=true:=by kernel_rfl
theorem ok196:Mx.aG Tryz.prog F 196 Mx.dC.m=true:=by kernel_rfl
theorem ok283:Mx.aG Tryz.prog F 283 Mx.dK.m=true:=by kernel_rfl
theorem ok99:Mx.aG Tryz.prog F 99 Mx.bH.m=true:=by kernel_rfl
theorem ok221:Mx.aG Tryz.prog F 221 Mx.cv.m=true:=by kernel_rfl
theorem ok139:Mx.aG Tryz.prog F 139 Mx.cJ.m=true:=by kernel_rfl
theorem ok202:Mx.aG Tryz.prog F 202 Mx.iu.m=true:=by kernel_rfl
theorem ok248:Mx.aG Tryz.prog F 248 Mx.cN.m=true:=by kernel_rfl
theorem ok201:Mx.aG Tryz.prog F 201 Mx.jE.m=true:=by kernel_rfl
theorem ok167:Mx.aG Tryz.prog F 167 Mx.fb.m=true:=by kernel_rfl
theorem ok206:Mx.aG Tryz.prog F 206 Mx.dX.m=true:=by kernel_rfl
theorem ok140:Mx.aG Tryz.prog F 140 Mx.gM.m=true:=by kernel_rfl
theorem ok142:Mx.aG Tryz.prog F 142 Mx.eE.m=true:=by kernel_rfl
theorem ok141:Mx.aG Tryz.prog F 141 Mx.dz.m=true:=by kernel_rfl
theorem ok52:Mx.aG Tryz.prog F 52 Mx.bX.m=true:=by kernel_rfl
theorem ok122:Mx.aG Tryz.prog F 122 Mx.eQ.m=true:=by kernel_rfl
theorem ok34:Mx.aG Tryz.prog F 34 Mx.dv.m=true:=by kernel_rfl
theorem ok100:Mx.aG Tryz.prog F 100 Mx.ig.m=true:=by kernel_rfl
theorem ok60:Mx.aG Tryz.prog F 60 Mx.ch.m=true:=by kernel_rfl
theorem ok75:Mx.aG Tryz.prog F 75 Mx.bl.m=true:=by kernel_rfl
theorem ok146:Mx.aG Tryz.prog F 146 Mx.fj.m=true:=by kernel_rfl
theorem ok58:Mx.aG Tryz.prog F 58 Mx.aX.m=true:=by kernel_rfl
theorem ok300:Mx.aG Tryz.prog F 300 Mx.eU.m=true:=by kernel_rfl
theorem ok301:Mx.aG Tryz.prog F 301 Mx.dY.m=true:=by kernel_rfl
theorem ok278:Mx.aG Tryz.prog F 278 Mx.b4.m=true:=by kernel_rfl
theorem ok282:Mx.aG Tryz.prog F 282 Mx.cL.m=true:=by kernel_rfl
theorem ok181:Mx.aG Tryz.prog F 181 Mx.gn.m=true:=by kernel_rfl
theorem ok81:Mx.aG Tryz.prog F 81 Mx.eH.m=true:=by kernel_rfl
theorem ok302:Mx.aG Tryz.prog F 302 Mx.eK.m=true:=by kernel_rfl
theorem ok279:Mx.aG Tryz.prog F 279 Mx.dI.m=true:=by kernel_rfl
theorem ok243:Mx.aG Tryz.prog F 243 Mx.jm.m=true:=by kernel_rfl
theorem ok184:Mx.aG Tryz.prog F 184 Mx.cP.m=true:=by kernel_rfl
theorem ok84:Mx.aG Tryz.prog F 84 Mx.dS.m=true:=by kernel_rfl
theorem ok280:Mx.aG Tryz.prog F 280 Mx.dA.m=true:=by kernel_rfl
theorem ok86:Mx.aG Tryz.prog F 86 Mx.du.m=true:=by kernel_rfl
theorem ok281:Mx.aG Tryz.prog F 281 Mx.dB.m=true:=by kernel_rfl
theorem ok468:Mx.aG Tryz.prog F 468 Mx.cF.m=true:=by kernel_rfl
theorem ok113:Mx.aG Tryz.prog F 113 Mx.fI.m=true:=by kernel_rfl
theorem ok175:Mx.aG Tryz.prog F 175 Mx.iM.m=true:=by kernel_rfl
theorem ok185:Mx.aG Tryz.prog F 185 Mx.eG.m=true:=by kernel_rfl
theorem ok174:Mx.aG Tryz.prog F 174 Mx.gF.m=true:=by kernel_rfl
theorem ok244:Mx.aG Tryz.prog F 244 Mx.bc.m=true:=by kernel_rfl
theorem ok519:Mx.aG Tryz.prog F 519 Mx.bB.m=true:=by kernel_rfl
theorem ok516:Mx.aG Tryz.prog F 516 Mx.dy.m=true:=by kernel_rfl
theorem ok24:Mx.aG Tryz.prog F 24 Mx.jd.m=true:=by kernel_rfl
theorem ok67:Mx.aG Tryz.prog F 67 Mx.gN.m=true:=by kernel_rfl
theorem ok10:Mx.aG Tryz.prog F 10 Mx.fF.m=true:=by kernel_rfl
theorem ok518:Mx.aG Tryz.prog F 518 Mx.gB.m=true:=by kernel_rfl
theorem ok515:Mx.aG Tryz.prog F 515 Mx.fi.m=true:=by kernel_rfl
theorem ok505:Mx.aG Tryz.prog F 505 Mx.iD.m=true:=by kernel_rfl
theorem ok40:Mx.aG Tryz.prog F 40 Mx.cV.m=true:=by kernel_rfl
theorem ok134:Mx.aG Tryz.prog F 134 Mx.fc.m=true:=by kernel_rfl
theorem ok44:Mx.aG Tryz.prog F 44 Mx.fM.m=true:=by kernel_rfl
theorem ok200:Mx.aG Tryz.prog F 200 Mx.aB.m=true:=by kernel_rfl
theorem ok477:Mx.aG Tryz.prog F 477 Mx.eX.m=true:=by kernel_rfl
theorem ok476:Mx.aG Tryz.prog F 476 Mx.eY.m=true:=by kernel_rfl
theorem ok239:Mx.aG Tryz.prog F 239 Mx.gP.m=true:=by kernel_rfl
theorem ok233:Mx.aG Tryz.prog F 233 Mx.eR.m=true:=by kernel_rfl
theorem ok155:Mx.aG Tryz.prog F 155 Mx.cB.m=true:=by kernel_rfl
theorem ok275:Mx.aG Tryz.prog F 275 Mx.gm.m=true:=by kernel_rfl
theorem ok161:Mx.aG Tryz.prog F 161 Mx.aC.m=true:=by kernel_rfl
theorem ok160:Mx.aG Tryz.prog F 160 Mx.gS.m=true:=by kernel_rfl
theorem ok72:Mx.aG Tryz.prog F 72 Mx.cK.m=true:=by kernel_rfl
theorem ok485:Mx.aG Tryz.prog F 485 Mx.iw.m=true:=by kernel_rfl
theorem ok470:Mx.aG Tryz.prog F 470 Mx.eC.m=true:=by kernel_rfl
theorem ok452:Mx.aG Tryz.prog F 452 Mx.fL.m=true:=by kernel_rfl
theorem ok20:Mx.aG Tryz.prog F 20 Mx.jq.m=true:=by kernel_rfl
theorem ok453:Mx.aG Tryz.prog F 453 Mx.aD.m=true:=by kernel_rfl
theorem ok234:Mx.aG Tryz.prog F 234 Mx.bU.m=true:=by kernel_rfl
theorem ok156:Mx.aG Tryz.prog F 156 Mx.aI.m=true:=by kernel_rfl
theorem ok454:Mx.aG Tryz.prog F 454 Mx.hZ.m=true:=by kernel_rfl
theorem ok486:Mx.aG Tryz.prog F 486 Mx.ar.m=true:=by kernel_rfl
theorem ok471:Mx.aG Tryz.prog F 471 Mx.aM.m=true:=by kernel_rfl
theorem ok455:Mx.aG Tryz.prog F 455 Mx.aV.m=true:=by kernel_rfl
theorem ok457:Mx.aG Tryz.prog F 457 Mx.fm.m=true:=by kernel_rfl
theorem ok456:Mx.aG Tryz.prog F 456 Mx.hQ.m=true:=by kernel_rfl
theorem ok23:Mx.aG Tryz.prog F 23 Mx.dU.m=true:=by kernel_rfl
theorem ok458:Mx.aG Tryz.prog F 458 Mx.hO.m=true:=by kernel_rfl
theorem ok437:Mx.aG Tryz.prog F 437 Mx.b7.m=true:=by kernel_rfl
theorem ok401:Mx.aG Tryz.prog F 401 Mx.gZ.m=true:=by kernel_rfl
theorem ok478:Mx.aG Tryz.prog F 478 Mx.aF.m=true:=by kernel_rfl
theorem ok479:Mx.aG Tryz.prog F 479 Mx.fC.m=true:=by kernel_rfl
theorem ok492:Mx.aG Tryz.prog F 492 Mx.ay.m=true:=by kernel_rfl
theorem ok490:Mx.aG Tryz.prog F 490 Mx.aP.m=true:=by kernel_rfl
theorem ok480:Mx.aG Tryz.prog F 480 Mx.a_.m=true:=by kernel_rfl
theorem ok481:Mx.aG Tryz.prog F 481 Mx.fB.m=true:=by kernel_rfl
theorem ok482:Mx.aG Tryz.prog F 482 Mx.bh.m=true:=by kernel_rfl
theorem ok483:Mx.aG Tryz.prog F 483 Mx.fA.m=true:=by kernel_rfl
theorem ok128:Mx.aG Tryz.prog F 128 Mx.dx.m=true:=by kernel_rfl
theorem ok484:Mx.aG Tryz.prog F 484 Mx.cM.m=true:=by kernel_rfl
theorem ok467:Mx.aG Tryz.prog F 467 Mx.bz.m=true:=by kernel_rfl
theorem ok447:Mx.aG Tryz.prog F 447 Mx.bG.m=true:=by kernel_rfl
theorem ok101:Mx.aG Tryz.prog F 101 Mx.bV.m=true:=by kernel_rfl
theorem ok147:Mx.aG Tryz.prog F 147 Mx.gD.m=true:=by kernel_rfl
theorem ok165:Mx.aG Tryz.prog F 165 Mx.dw.m=true:=by kernel_rfl
theorem ok89:Mx.aG Tryz.prog F 89 Mx.ev.m=true:=by kernel_rfl
theorem ok164:Mx.aG Tryz.prog F 164 Mx.gI.m=true:=by kernel_rfl
theorem ok272:Mx.aG Tryz.prog F 272 Mx.jn.m=true:=by kernel_rfl
theorem ok235:Mx.aG Tryz.prog F 235 Mx.dL.m=true:=by kernel_rfl
theorem ok166:Mx.aG Tryz.prog F 166 Mx.e_.m=true:=by kernel_rfl
theorem ok74:Mx.aG Tryz.prog F 74 Mx.bJ.m=true:=by kernel_rfl
theorem ok271:Mx.aG Tryz.prog F 271 Mx.fH.m=true:=by kernel_rfl
theorem ok228:Mx.aG Tryz.prog F 228 Mx.dW.m=true:=by kernel_rfl
theorem ok229:Mx.aG Tryz.prog F 229 Mx.cS.m=true:=by kernel_rfl
theorem ok150:Mx.aG Tryz.prog F 150 Mx.aJ.m=true:=by kernel_rfl
theorem ok433:Mx.aG Tryz.prog F 433 Mx.fw.m=true:=by kernel_rfl
theorem ok199:Mx.aG Tryz.prog F 199 Mx.jf.m=true:=by kernel_rfl
theorem ok95:Mx.aG Tryz.prog F 95 Mx.gV.m=true:=by kernel_rfl
theorem ok270:Mx.aG Tryz.prog F 270 Mx.eW.m=true:=by kernel_rfl
theorem ok220:Mx.aG Tryz.prog F 220 Mx.b6.m=true:=by kernel_rfl
theorem ok442:Mx.aG Tryz.prog F 442 Mx.bd.m=true:=by kernel_rfl
theorem ok163:Mx.aG Tryz.prog F 163 Mx.jG.m=true:=by kernel_rfl
theorem ok412:Mx.aG Tryz.prog F 412 Mx.fZ.m=true:=by kernel_rfl
theorem ok230:Mx.aG Tryz.prog F 230 Mx.cU.m=true:=by kernel_rfl
theorem ok231:Mx.aG Tryz.prog F 231 Mx.cy.m=true:=by kernel_rfl
theorem ok152:Mx.aG Tryz.prog F 152 Mx.bY.m=true:=by kernel_rfl
theorem ok249:Mx.aG Tryz.prog F 249 Mx.cO.m=true:=by kernel_rfl
theorem ok203:Mx.aG Tryz.prog F 203 Mx.jH.m=true:=by kernel_rfl
theorem ok236:Mx.aG Tryz.prog F 236 Mx.ij.m=true:=by kernel_rfl
theorem ok168:Mx.aG Tryz.prog F 168 Mx.fe.m=true:=by kernel_rfl
theorem ok169:Mx.aG Tryz.prog F 169 Mx.ee.m=true:=by kernel_rfl
theorem ok207:Mx.aG Tryz.prog F 207 Mx.dk.m=true:=by kernel_rfl
theorem ok153:Mx.aG Tryz.prog F 153 Mx.eN.m=true:=by kernel_rfl
theorem ok170:Mx.aG Tryz.prog F 170 Mx.dE.m=true:=by kernel_rfl
theorem ok222:Mx.aG Tryz.prog F 222 Mx.fG.m=true:=by kernel_rfl
theorem ok223:Mx.aG Tryz.prog F 223 Mx.eh.m=true:=by kernel_rfl
theorem ok143:Mx.aG Tryz.prog F 143 Mx.dF.m=true:=by kernel_rfl
theorem ok76:Mx.aG Tryz.prog F 76 Mx.bI.m=true:=by kernel_rfl
theorem ok148:Mx.aG Tryz.prog F 148 Mx.fX.m=true:=by kernel_rfl
theorem ok59:Mx.aG Tryz.prog F 59 Mx.aO.m=true:=by kernel_rfl
theorem ok413:Mx.aG Tryz.prog F 413 Mx.fQ.m=true:=by kernel_rfl
theorem ok431:Mx.aG Tryz.prog F 431 Mx.ep.m=true:=by kernel_rfl
theorem ok441:Mx.aG Tryz.prog F 441 Mx.gr.m=true:=by kernel_rfl
theorem ok409:Mx.aG Tryz.prog F 409 Mx.dh.m=true:=by kernel_rfl
theorem ok411:Mx.aG Tryz.prog F 411 Mx.ei.m=true:=by kernel_rfl
theorem ok157:Mx.aG Tryz.prog F 157 Mx.gu.m=true:=by kernel_rfl
theorem ok70:Mx.aG Tryz.prog F 70 Mx.eI.m=true:=by kernel_rfl
theorem ok410:Mx.aG Tryz.prog F 410 Mx.fq.m=true:=by kernel_rfl
theorem ok240:Mx.aG Tryz.prog F 240 Mx.jo.m=true:=by kernel_rfl
theorem ok182:Mx.aG Tryz.prog F 182 Mx.cQ.m=true:=by kernel_rfl
theorem ok83:Mx.aG Tryz.prog F 83 Mx.dV.m=true:=by kernel_rfl
theorem ok428:Mx.aG Tryz.prog F 428 Mx.fg.m=true:=by kernel_rfl
theorem ok162:Mx.aG Tryz.prog F 162 Mx.a7.m=true:=by kernel_rfl
theorem ok73:Mx.aG Tryz.prog F 73 Mx.fY.m=true:=by kernel_rfl
theorem ok429:Mx.aG Tryz.prog F 429 Mx.fh.m=true:=by kernel_rfl
theorem ok469:Mx.aG Tryz.prog F 469 Mx.cY.m=true:=by kernel_rfl
theorem ok451:Mx.aG Tryz.prog F 451 Mx.gU.m=true:=by kernel_rfl
theorem ok105:Mx.aG Tryz.prog F 105 Mx.dG.m=true:=by kernel_rfl
theorem ok13:Mx.aG Tryz.prog F 13 Mx.cR.m=true:=by kernel_rfl
theorem ok65:Mx.aG Tryz.prog F 65 Mx.ff.m=true:=by kernel_rfl
theorem ok450:Mx.aG Tryz.prog F 450 Mx.fo.m=true:=by kernel_rfl
theorem ok114:Mx.aG Tryz.prog F 114 Mx.gQ.m=true:=by kernel_rfl
theorem ok506:Mx.aG Tryz.prog F 506 Mx.cX.m=true:=by kernel_rfl
theorem ok138:Mx.aG Tryz.prog F 138 Mx.iE.m=true:=by kernel_rfl
theorem ok51:Mx.aG Tryz.prog F 51 Mx.iF.m=true:=by kernel_rfl
theorem ok151:Mx.aG Tryz.prog F 151 Mx.fW.m=true:=by kernel_rfl
theorem ok205:Mx.aG Tryz.prog F 205 Mx.gh.m=true:=by kernel_rfl
theorem ok102:Mx.aG Tryz.prog F 102 Mx.jF.m=true:=by kernel_rfl
theorem ok213:Mx.aG Tryz.prog F 213 Mx.eS.m=true:=by kernel_rfl
theorem ok123:Mx.aG Tryz.prog F 123 Mx.fp.m=true:=by kernel_rfl
theorem ok204:Mx.aG Tryz.prog F 204 Mx.kO.m=true:=by kernel_rfl
theorem ok103:Mx.aG Tryz.prog F 103 Mx.iY.m=true:=by kernel_rfl
theorem ok61:Mx.aG Tryz.prog F 61 Mx.dj.m=true:=by kernel_rfl
theorem ok63:Mx.aG Tryz.prog F 63 Mx.gY.m=true:=by kernel_rfl
theorem ok435:Mx.aG Tryz.prog F 435 Mx.ik.m=true:=by kernel_rfl
theorem ok159:Mx.aG Tryz.prog F 159 Mx.cq.m=true:=by kernel_rfl
theorem ok116:Mx.aG Tryz.prog F 116 Mx.bS.m=true:=by kernel_rfl
theorem ok31:Mx.aG Tryz.prog F 31 Mx.dg.m=true:=by kernel_rfl
theorem ok421:Mx.aG Tryz.prog F 421 Mx.fV.m=true:=by kernel_rfl
theorem ok507:Mx.aG Tryz.prog F 507 Mx.jr.m=true:=by kernel_rfl
theorem ok498:Mx.aG Tryz.prog F 498 Mx.eM.m=true:=by kernel_rfl
set_option maxHeartbeats 4000000 in
set_option maxRecDepth 100000 in
theorem table:Mx.sN Tryz.prog F M:=by
 refine Mx.Cg ?_ ?_
 ·simp only[tab,List.forall_mem_cons];exact⟨ok36,ok124,ok131,ok125,ok132,ok133,ok43,ok474,ok241,ok238,ok180,ok277,ok91,ok459,ok460,ok488,ok472,ok461,ok22,ok462,ok439,ok405,ok247,ok197,ok475,ok466,ok446,ok98,ok186,ok90,ok183,ok276,ok242,ok187,ok88,ok226,ok227,ok149,ok432,ok219,ok196,ok283,ok99,ok221,ok139,ok202,ok248,ok201,ok167,ok206,ok140,ok142,ok141,ok52,ok122,ok34,ok100,ok60,ok75,ok146,ok58,ok300,ok301,ok278,ok282,ok181,ok81,ok302,ok279,ok243,ok184,ok84,ok280,ok86,ok281,ok468,ok113,ok175,ok185,ok174,ok244,ok519,ok516,ok24,ok67,ok10,ok518,ok515,ok505,ok40,ok134,ok44,ok200,ok477,ok476,ok239,ok233,ok155,ok275,ok161,ok160,ok72,ok485,ok470,ok452,ok20,ok453,ok234,ok156,ok454,ok486,ok471,ok455,ok457,ok456,ok23,ok458,ok437,ok401,ok478,ok479,ok492,ok490,ok480,ok481,ok482,ok483,ok128,ok484,ok467,ok447,ok101,ok147,ok165,ok89,ok164,ok272,ok235,ok166,ok74,ok271,ok228,ok229,ok150,ok433,ok199,ok95,ok270,ok220,ok442,ok163,ok412,ok230,ok231,ok152,ok249,ok203,ok236,ok168,ok169,ok207,ok153,ok170,ok222,ok223,ok143,ok76,ok148,ok59,ok413,ok431,ok441,ok409,ok411,ok157,ok70,ok410,ok240,ok182,ok83,ok428,ok162,ok73,ok429,ok469,ok451,ok105,ok13,ok65,ok450,ok114,ok506,ok138,ok51,ok151,ok205,ok102,ok213,ok123,ok204,ok103,ok61,ok63,ok435,ok159,ok116,ok31,ok421,ok507,ok498,by simp⟩
 ·simp only[exts,List.forall_mem_cons];exact⟨ext135,ext136,ext440,by simp⟩
theorem k36:Mx.lF.k M:=rfl
theorem k124:Mx.fP.k M:=rfl
theorem k131:Mx.fk.k M:=rfl
theorem k125:Mx.bu.k M:=⟨rfl,k131⟩
theorem k132:Mx.bj.k M:=rfl
theorem k133:Mx.b9.k M:=rfl
theorem k43:Mx.aU.k M:=⟨rfl,k132,k133⟩
theorem k474:Mx.gk.k M:=rfl
theorem k241:Mx.iq.k M:=rfl
theorem k238:Mx.fU.k M:=⟨rfl,k241⟩
theorem k180:Mx.cd.k M:=⟨rfl,k238⟩
theorem k277:Mx.iB.k M:=rfl
theorem k91:Mx.bT.k M:=rfl
theorem k459:Mx.il.k M:=rfl
theorem k460:Mx.dq.k M:=⟨rfl,k132,k133⟩
theorem k488:Mx.gH.k M:=⟨rfl,k277⟩
theorem k472:Mx.ec.k M:=⟨rfl,k488⟩
theorem k461:Mx.fJ.k M:=⟨rfl,k238,k472⟩
theorem k22:Mx.dR.k M:=⟨rfl,k91⟩
theorem k462:Mx.cW.k M:=rfl
theorem k439:Mx.da.k M:=⟨rfl,k22,k91,k132,k238,k459,k460,k461,k462⟩
theorem k405:Mx.eV.k M:=⟨rfl,k43,k180,k277,k439⟩
theorem k247:Mx.gX.k M:=rfl
theorem k197:Mx.db.k M:=⟨rfl,k247⟩
theorem k475:Mx.cE.k M:=⟨rfl,k197⟩
theorem k466:Mx.aY.k M:=⟨rfl,k132,k133,k180,k405,k474,k475⟩
theorem k446:Mx.bQ.k M:=⟨rfl,k43,k132,k466⟩
theorem k98:Mx.bR.k M:=rfl
theorem k186:Mx.cD.k M:=⟨rfl,k98⟩
theorem k90:Mx.dZ.k M:=⟨rfl,k98⟩
theorem k183:Mx.gG.k M:=⟨rfl,k98⟩
theorem k276:Mx.jl.k M:=⟨rfl,k98,k183⟩
theorem k242:Mx.dJ.k M:=⟨rfl,k276⟩
theorem k187:Mx.d_.k M:=⟨rfl,k98,k242⟩
theorem k88:Mx.bE.k M:=⟨rfl,k90,k91,k98,k132,k183,k186,k187⟩
theorem k226:Mx.cH.k M:=rfl
theorem k227:Mx.b5.k M:=rfl
theorem k149:Mx.aL.k M:=⟨rfl,k88,k98,k132,k186,k226,k227⟩
theorem k432:Mx.fu.k M:=⟨rfl,k149,k446⟩
theorem k219:Mx.cu.k M:=⟨rfl,k180⟩
theorem k196:Mx.dC.k M:=rfl
theorem k283:Mx.dK.k M:=⟨rfl,k133,k149,k196,k219⟩
theorem k99:Mx.bH.k M:=rfl
theorem k221:Mx.cv.k M:=⟨rfl,k98,k99⟩
theorem k139:Mx.cJ.k M:=⟨rfl,k221⟩
theorem k202:Mx.iu.k M:=rfl
theorem k248:Mx.cN.k M:=rfl
theorem k201:Mx.jE.k M:=⟨rfl,k248⟩
theorem k167:Mx.fb.k M:=⟨rfl,k201,k202⟩
theorem k206:Mx.dX.k M:=⟨rfl,k221⟩
theorem k140:Mx.gM.k M:=⟨rfl,k206⟩
theorem k142:Mx.eE.k M:=⟨rfl,k139⟩
theorem k141:Mx.dz.k M:=⟨rfl,k139,k140,k187⟩
theorem k52:Mx.bX.k M:=⟨rfl,k88,k139,k140,k141,k142⟩
theorem k122:Mx.eQ.k M:=⟨rfl,k99,k187⟩
theorem k34:Mx.dv.k M:=⟨rfl,k88,k99,k122⟩
theorem k100:Mx.ig.k M:=⟨rfl,k201,k202⟩
theorem k60:Mx.ch.k M:=⟨rfl,k34,k99,k100,k149⟩
theorem k75:Mx.bl.k M:=⟨rfl,k52,k60,k139,k142,k167⟩
theorem k146:Mx.fj.k M:=⟨rfl,k75,k90⟩
theorem k58:Mx.aX.k M:=⟨rfl,k98,k146⟩
theorem k300:Mx.eU.k M:=⟨rfl,k91,k132,k196⟩
theorem k301:Mx.dY.k M:=rfl
theorem k278:Mx.b4.k M:=⟨rfl,k149,k180,k219,k226,k300,k301⟩
theorem k282:Mx.cL.k M:=⟨rfl,k149,k196,k219,k226,k301⟩
theorem k181:Mx.gn.k M:=rfl
theorem k81:Mx.eH.k M:=⟨rfl,k88,k91,k98,k132,k180,k181⟩
theorem k302:Mx.eK.k M:=⟨rfl,k149,k219⟩
theorem k279:Mx.dI.k M:=⟨rfl,k81,k149,k196,k219,k300,k301,k302⟩
theorem k243:Mx.jm.k M:=⟨rfl,k276,k277⟩
theorem k184:Mx.cP.k M:=⟨rfl,k98,k241,k242,k243⟩
theorem k84:Mx.dS.k M:=⟨rfl,k88,k91,k98,k180,k183,k184⟩
theorem k280:Mx.dA.k M:=⟨rfl,k84,k149,k196,k219,k301,k302⟩
theorem k86:Mx.du.k M:=⟨rfl,k88,k91,k133,k180⟩
theorem k281:Mx.dB.k M:=⟨rfl,k86,k149,k196,k219⟩
theorem k468:Mx.cF.k M:=⟨rfl,k58,k75,k219,k278,k279,k280,k281,k282,k283,k432,k446⟩
theorem k113:Mx.fI.k M:=rfl
theorem k175:Mx.iM.k M:=⟨rfl,k125⟩
theorem k185:Mx.eG.k M:=⟨rfl,k125⟩
theorem k174:Mx.gF.k M:=⟨rfl,k185⟩
theorem k244:Mx.bc.k M:=⟨rfl,k125,k174,k175,k185,k278,k279,k280,k281,k282,k283⟩
theorem k519:Mx.bB.k M:=⟨rfl,k60,k113,k125,k174,k185,k244⟩
theorem k516:Mx.dy.k M:=⟨rfl,k113,k125,k468,k519⟩
theorem k24:Mx.jd.k M:=⟨rfl,k113⟩
theorem k67:Mx.gN.k M:=⟨rfl,k58,k99⟩
theorem k10:Mx.fF.k M:=⟨rfl,k98,k99,k100⟩
theorem k518:Mx.gB.k M:=⟨rfl,k10,k67,k468⟩
theorem k515:Mx.fi.k M:=⟨rfl,k24,k125,k516,k518⟩
theorem k505:Mx.iD.k M:=⟨rfl,k124,k515⟩
theorem k40:Mx.cV.k M:=⟨rfl,k124,k125,k131⟩
theorem k134:Mx.fc.k M:=rfl
theorem k44:Mx.fM.k M:=⟨rfl,k134,rfl,rfl⟩
theorem k200:Mx.aB.k M:=rfl
theorem k477:Mx.eX.k M:=rfl
theorem k476:Mx.eY.k M:=⟨rfl,k200,k477⟩
theorem k239:Mx.gP.k M:=rfl
theorem k233:Mx.eR.k M:=⟨rfl,k239⟩
theorem k155:Mx.cB.k M:=⟨rfl,k134,k233⟩
theorem k275:Mx.gm.k M:=rfl
theorem k161:Mx.aC.k M:=rfl
theorem k160:Mx.gS.k M:=rfl
theorem k72:Mx.cK.k M:=⟨rfl,k160,k161⟩
theorem k485:Mx.iw.k M:=⟨rfl,k275⟩
theorem k470:Mx.eC.k M:=⟨rfl,k485⟩
theorem k452:Mx.fL.k M:=⟨rfl,k233,k470⟩
theorem k20:Mx.jq.k M:=⟨rfl,k72⟩
theorem k453:Mx.aD.k M:=⟨rfl,k161⟩
theorem k234:Mx.bU.k M:=rfl
theorem k156:Mx.aI.k M:=⟨rfl,k234⟩
theorem k454:Mx.hZ.k M:=⟨rfl,k156⟩
theorem k486:Mx.ar.k M:=rfl
theorem k471:Mx.aM.k M:=⟨rfl,k486⟩
theorem k455:Mx.aV.k M:=⟨rfl,k471⟩
theorem k457:Mx.fm.k M:=rfl
theorem k456:Mx.hQ.k M:=⟨rfl,k457⟩
theorem k23:Mx.dU.k M:=⟨rfl,k72⟩
theorem k458:Mx.hO.k M:=⟨rfl,k457⟩
theorem k437:Mx.b7.k M:=⟨rfl,k20,k23,k44,k72,k233,k452,k453,k454,k455,k456,k458⟩
theorem k401:Mx.gZ.k M:=⟨rfl,k44,k155,k275,k437⟩
theorem k478:Mx.aF.k M:=⟨rfl,k200⟩
theorem k479:Mx.fC.k M:=⟨rfl,k156⟩
theorem k492:Mx.ay.k M:=rfl
theorem k490:Mx.aP.k M:=⟨rfl,k492⟩
theorem k480:Mx.a_.k M:=⟨rfl,k490⟩
theorem k481:Mx.fB.k M:=⟨rfl,k457⟩
theorem k482:Mx.bh.k M:=⟨rfl,k200⟩
theorem k483:Mx.fA.k M:=rfl
theorem k128:Mx.dx.k M:=rfl
theorem k484:Mx.cM.k M:=⟨rfl,k128⟩
theorem k467:Mx.bz.k M:=⟨rfl,k155,k401,k476,k478,k479,k480,k481,k482,k483,k484⟩
theorem k447:Mx.bG.k M:=⟨rfl,k44,k156,k467⟩
theorem k101:Mx.bV.k M:=rfl
theorem k147:Mx.gD.k M:=⟨rfl,k101⟩
theorem k165:Mx.dw.k M:=⟨rfl,k147⟩
theorem k89:Mx.ev.k M:=⟨rfl,k101⟩
theorem k164:Mx.gI.k M:=⟨rfl,k101⟩
theorem k272:Mx.jn.k M:=⟨rfl,k101,k164⟩
theorem k235:Mx.dL.k M:=⟨rfl,k272⟩
theorem k166:Mx.e_.k M:=⟨rfl,k147,k235⟩
theorem k74:Mx.bJ.k M:=⟨rfl,k72,k89,k101,k147,k156,k164,k165,k166⟩
theorem k271:Mx.fH.k M:=rfl
theorem k228:Mx.dW.k M:=⟨rfl,k200,k271⟩
theorem k229:Mx.cS.k M:=rfl
theorem k150:Mx.aJ.k M:=⟨rfl,k74,k101,k156,k165,k228,k229⟩
theorem k433:Mx.fw.k M:=⟨rfl,k150,k447⟩
theorem k199:Mx.jf.k M:=rfl
theorem k95:Mx.gV.k M:=⟨rfl,k199,k200⟩
theorem k270:Mx.eW.k M:=⟨rfl,k155⟩
theorem k220:Mx.b6.k M:=⟨rfl,k134,k270⟩
theorem k442:Mx.bd.k M:=rfl
theorem k163:Mx.jG.k M:=⟨rfl,k134,rfl,rfl⟩
theorem k412:Mx.fZ.k M:=⟨rfl,k95,k150,k163,k220,k442⟩
theorem k230:Mx.cU.k M:=⟨rfl,k101⟩
theorem k231:Mx.cy.k M:=⟨rfl,k101,k230⟩
theorem k152:Mx.bY.k M:=⟨rfl,k231⟩
theorem k249:Mx.cO.k M:=rfl
theorem k203:Mx.jH.k M:=⟨rfl,k249⟩
theorem k236:Mx.ij.k M:=rfl
theorem k168:Mx.fe.k M:=⟨rfl,k101,k203,k236⟩
theorem k169:Mx.ee.k M:=⟨rfl,k152⟩
theorem k207:Mx.dk.k M:=⟨rfl,k231⟩
theorem k153:Mx.eN.k M:=⟨rfl,k207⟩
theorem k170:Mx.dE.k M:=⟨rfl,k152,k169⟩
theorem k222:Mx.fG.k M:=⟨rfl,k152⟩
theorem k223:Mx.eh.k M:=⟨rfl,k152,k153,k222⟩
theorem k143:Mx.dF.k M:=⟨rfl,k152,k153,k169,k170,k222,k223⟩
theorem k76:Mx.bI.k M:=⟨rfl,k143,k150,k152,k168,k169,k170⟩
theorem k148:Mx.fX.k M:=⟨rfl,k101⟩
theorem k59:Mx.aO.k M:=⟨rfl,k76,k89,k147,k148⟩
theorem k413:Mx.fQ.k M:=⟨rfl,k72,k156⟩
theorem k431:Mx.ep.k M:=rfl
theorem k441:Mx.gr.k M:=⟨rfl,k150,k220⟩
theorem k409:Mx.dh.k M:=⟨rfl,k150,k220,k228,k413,k431,rfl,k441⟩
theorem k411:Mx.ei.k M:=⟨rfl,k95,k150,k220,k228,k431,k441⟩
theorem k157:Mx.gu.k M:=rfl
theorem k70:Mx.eI.k M:=⟨rfl,k72,k74,k148,k155,k156,k157⟩
theorem k410:Mx.fq.k M:=⟨rfl,k70,k95,k150,k220,k413,k431,k441⟩
theorem k240:Mx.jo.k M:=⟨rfl,k272,k275⟩
theorem k182:Mx.cQ.k M:=⟨rfl,k148,k235,k239,k240⟩
theorem k83:Mx.dV.k M:=⟨rfl,k72,k74,k148,k155,k164,k182⟩
theorem k428:Mx.fg.k M:=⟨rfl,k83,k95,k150,k220,k431,k441⟩
theorem k162:Mx.a7.k M:=rfl
theorem k73:Mx.fY.k M:=⟨rfl,k72,k74,k155,k162,k163⟩
theorem k429:Mx.fh.k M:=⟨rfl,k73,k95,k150,k220⟩
theorem k469:Mx.cY.k M:=⟨rfl,k59,k76,k220,k409,k410,k411,k412,k428,k429,k433,k447⟩
theorem k451:Mx.gU.k M:=⟨rfl,k220,k469⟩
theorem k105:Mx.dG.k M:=⟨rfl,k101,k168,k207⟩
theorem k13:Mx.cR.k M:=⟨rfl,k105⟩
theorem k65:Mx.ff.k M:=⟨rfl,k59,k152,k153⟩
theorem k450:Mx.fo.k M:=⟨rfl,k13,k65⟩
theorem k114:Mx.gQ.k M:=rfl
theorem k506:Mx.cX.k M:=⟨rfl,k13,k101,k114,k450,k451⟩
theorem k138:Mx.iE.k M:=⟨rfl,k220⟩
theorem k51:Mx.iF.k M:=⟨rfl,k138⟩
theorem k151:Mx.fW.k M:=⟨rfl,k230⟩
theorem k205:Mx.gh.k M:=⟨rfl,k230⟩
theorem k102:Mx.jF.k M:=⟨rfl,k205⟩
theorem k213:Mx.eS.k M:=⟨rfl,k102,k151,k166⟩
theorem k123:Mx.fp.k M:=⟨rfl,k102,k151,k213⟩
theorem k204:Mx.kO.k M:=rfl
theorem k103:Mx.iY.k M:=⟨rfl,k203,k204⟩
theorem k61:Mx.dj.k M:=⟨rfl,k103,k123,k150,k151⟩
theorem k63:Mx.gY.k M:=⟨rfl,k61⟩
theorem k435:Mx.ik.k M:=⟨rfl,k63,k101,k114,k150,k450,k451⟩
theorem k159:Mx.cq.k M:=rfl
theorem k116:Mx.bS.k M:=⟨rfl,k159⟩
theorem k31:Mx.dg.k M:=⟨rfl,k116⟩
theorem k421:Mx.fV.k M:=⟨rfl,k31⟩
theorem k507:Mx.jr.k M:=⟨rfl,k421⟩
theorem k498:Mx.eM.k M:=⟨rfl,k36,k40,k51,k421,k435,k505,k506,k507⟩
end Go.Proofs.YtcihgbflbmhkbaaGreat.fnJournals
