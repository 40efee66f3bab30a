/-
  Toward: at every input FnCallsAll returns true, and its arguments read as they did. No condition.
-/
import Derived.Test.YtcihgbflbmhkbaaGreatRows
import Derived.Shelf.Sort.Plain
import Derived.Shelf.Slices.In.SortNone
import Derived.Shelf.Slices.CompactI
import Derived.Shelf.Spec.SlicesInsertGrow
import Derived.Test.YtcihgbflbmhkbaaGreatMxCag
set_option linter.unusedSimpArgs false
set_option linter.unusedVariables false
namespace Go.Proofs.YtcihgbflbmhkbaaGreat.fnCallsAll
open Go.ChangeShapes Go.WideShapes Go.ChangeAt Go.RowKit
set_option linter.unusedVariables false
def num:List (Nat×Nat):=[(36,9),(234,138),(156,50),(101,59),(147,118),(165,60),(89,119),(164,150),(272,277),(235,215),(166,151),(161,216),(160,217),(72,152),(74,61),(200,91),(271,153),(228,62),(229,63),(150,17),(159,145),(116,55),(31,15),(421,24),(124,47),(131,68),(125,69),(113,93),(132,58),(133,79),(43,56),(474,146),(241,275),(238,213),(180,148),(277,211),(91,210),(459,270),(460,271),(488,316),(472,302),(461,272),(22,273),(462,274),(439,212),(405,147),(247,276),(197,214),(475,149),(466,57),(446,16),(98,116),(186,141),(90,198),(183,208),(276,301),(242,269),(187,209),(88,142),(226,143),(227,144),(149,54),(432,14),(219,77),(196,78),(283,27),(99,194),(221,196),(139,114),(202,242),(248,290),(201,243),(167,186),(206,197),(140,115),(142,188),(141,244),(52,187),(122,291),(34,245),(100,246),(60,189),(75,107),(146,117),(58,44),(300,180),(301,181),(278,102),(282,103),(181,240),(81,182),(302,183),(279,104),(243,289),(184,241),(84,184),(280,105),(86,185),(281,106),(468,39),(175,122),(185,199),(174,200),(244,121),(519,166),(516,94),(508,35),(134,123),(44,48),(477,127),(476,126),(239,266),(233,205),(155,129),(275,203),(485,312),(470,298),(452,258),(20,259),(453,260),(454,261),(486,313),(471,299),(455,262),(457,134),(456,263),(23,264),(458,265),(437,204),(401,128),(478,130),(479,131),(492,267),(490,206),(480,132),(481,133),(482,135),(483,136),(128,154),(484,137),(467,49),(447,11),(433,12),(199,92),(95,33),(270,161),(220,82),(442,83),(163,84),(412,29),(230,190),(231,192),(152,110),(249,285),(203,233),(236,234),(168,174),(169,175),(207,193),(153,111),(170,177),(222,235),(223,236),(143,176),(76,100),(148,120),(59,45),(413,167),(431,169),(441,170),(409,95),(411,96),(157,230),(70,171),(410,97),(240,284),(182,231),(83,172),(428,98),(162,232),(73,173),(429,99),(469,37),(451,36),(501,7),(135,124),(136,125),(440,168),(487,314),(493,268)]
def tab:List (Nat×Mx.Fn):=[(36,Mx.ky.m),(234,Mx.bN.m),(156,Mx.aH.m),(101,Mx.b_.m),(147,Mx.fT.m),(165,Mx.da.m),(89,Mx.dP.m),(164,Mx.fX.m),(272,Mx.iF.m),(235,Mx.dw.m),(166,Mx.fk.m),(161,Mx.aA.m),(160,Mx.f_.m),(72,Mx.cE.m),(74,Mx.bG.m),(200,Mx.ay.m),(271,Mx.fc.m),(228,Mx.dE.m),(229,Mx.cN.m),(150,Mx.aJ.m),(159,Mx.ch.m),(116,Mx.bK.m),(31,Mx.cU.m),(421,Mx.fI.m),(124,Mx.fK.m),(131,Mx.fu.m),(125,Mx.bD.m),(113,Mx.fe.m),(132,Mx.bf.m),(133,Mx.bX.m),(43,Mx.aU.m),(474,Mx.fH.m),(241,Mx.gF.m),(238,Mx.fq.m),(180,Mx.b6.m),(277,Mx.gL.m),(91,Mx.bM.m),(459,Mx.gE.m),(460,Mx.cY.m),(488,Mx.fW.m),(472,Mx.dJ.m),(461,Mx.ff.m),(22,Mx.dA.m),(462,Mx.cQ.m),(439,Mx.cS.m),(405,Mx.ep.m),(247,Mx.gi.m),(197,Mx.cT.m),(475,Mx.cv.m),(466,Mx.aY.m),(446,Mx.bI.m),(98,Mx.bS.m),(186,Mx.cu.m),(90,Mx.dH.m),(183,Mx.fV.m),(276,Mx.iD.m),(242,Mx.du.m),(187,Mx.dI.m),(88,Mx.bB.m),(226,Mx.cz.m),(227,Mx.bU.m),(149,Mx.aI.m),(432,Mx.eS.m),(219,Mx.cj.m),(196,Mx.dj.m),(283,Mx.dv.m),(99,Mx.bL.m),(221,Mx.cm.m),(139,Mx.cD.m),(202,Mx.gG.m),(248,Mx.cI.m),(201,Mx.iQ.m),(167,Mx.eI.m),(206,Mx.dF.m),(140,Mx.fY.m),(142,Mx.dR.m),(141,Mx.df.m),(52,Mx.bO.m),(122,Mx.ec.m),(34,Mx.c_.m),(100,Mx.ig.m),(60,Mx.b9.m),(75,Mx.bh.m),(146,Mx.eO.m),(58,Mx.aX.m),(300,Mx.ei.m),(301,Mx.dG.m),(278,Mx.bT.m),(282,Mx.cF.m),(181,Mx.fL.m),(81,Mx.dU.m),(302,Mx.dX.m),(279,Mx.dq.m),(243,Mx.iE.m),(184,Mx.cK.m),(84,Mx.dB.m),(280,Mx.dg.m),(86,Mx.cZ.m),(281,Mx.dh.m),(468,Mx.cM.m),(175,Mx.gU.m),(185,Mx.dS.m),(174,Mx.fU.m),(244,Mx.a_.m),(519,Mx.bu.m),(516,Mx.de.m),(508,Mx.gk.m),(134,Mx.eJ.m),(44,Mx.fh.m),(477,Mx.eC.m),(476,Mx.eD.m),(239,Mx.fZ.m),(233,Mx.ee.m),(155,Mx.cq.m),(275,Mx.fJ.m),(485,Mx.gI.m),(470,Mx.dQ.m),(452,Mx.fg.m),(20,Mx.iH.m),(453,Mx.aC.m),(454,Mx.gA.m),(486,Mx.ao.m),(471,Mx.aL.m),(455,Mx.aV.m),(457,Mx.eP.m),(456,Mx.gz.m),(23,Mx.dC.m),(458,Mx.gw.m),(437,Mx.bW.m),(401,Mx.gn.m),(478,Mx.aD.m),(479,Mx.eZ.m),(492,Mx.aq.m),(490,Mx.aO.m),(480,Mx.a8.m),(481,Mx.eY.m),(482,Mx.bd.m),(483,Mx.eX.m),(128,Mx.db.m),(484,Mx.cG.m),(467,Mx.bq.m),(447,Mx.bC.m),(433,Mx.eU.m),(199,Mx.iu.m),(95,Mx.gf.m),(270,Mx.ev.m),(220,Mx.b4.m),(442,Mx.ba.m),(163,Mx.iR.m),(412,Mx.fy.m),(230,Mx.eQ.m),(231,Mx.cn.m),(152,Mx.b8.m),(249,Mx.cJ.m),(203,Mx.jk.m),(236,Mx.gD.m),(168,Mx.fC.m),(169,Mx.dK.m),(207,Mx.dN.m),(153,Mx.fb.m),(170,Mx.dm.m),(222,Mx.fa.m),(223,Mx.dL.m),(143,Mx.dn.m),(76,Mx.bF.m),(148,Mx.fw.m),(59,Mx.aP.m),(413,Mx.fm.m),(431,Mx.dO.m),(441,Mx.fM.m),(409,Mx.cV.m),(411,Mx.dM.m),(157,Mx.fN.m),(70,Mx.dV.m),(410,Mx.eR.m),(240,Mx.iG.m),(182,Mx.cL.m),(83,Mx.dD.m),(428,Mx.eK.m),(162,Mx.a7.m),(73,Mx.fx.m),(429,Mx.eM.m),(469,Mx.cw.m),(451,Mx.gN.m),(501,Mx.bY.m)]
def F:Nat→FuncId:=Mx.Lo num
def exts:List (Nat×(List Mx.V→List (Nat×Mx.Ob)→Option (Mx.V×List (Nat×Mx.Ob)))):=[(135,Mx.tO),(136,Mx.nF),(440,Mx.A2)]
def M:Nat→Option Mx.Body:=Mx.Iu tab exts
def rho20:Go.Shelf.Ren:={f:=fun n=>if n=20 then 125 else n,t:=fun n=>if n=22 then 25 else n,g:=fun n=>n}
theorem lays20:Go.Proofs.Lays2.n20 Tryz.prog rho20 where
 mixed:=by kernel_rfl
 f20:=Tryz.func125.trans (congrArg some (by kernel_rfl))
 t0:=by kernel_rfl
 a0:=fun w=>by kernel_rfl
 z0:=fun w=>by kernel_rfl
 v0:=fun w=>by kernel_rfl
 t3:=by kernel_rfl
 a3:=fun w=>by kernel_rfl
 z3:=fun w=>by kernel_rfl
 v3:=fun w=>by kernel_rfl
 t4:=by kernel_rfl
 a4:=fun w=>by kernel_rfl
 z4:=fun w=>by kernel_rfl
 v4:=fun w=>by kernel_rfl
 t22:=by kernel_rfl
 a22:=fun w=>by kernel_rfl
 z22:=fun w=>by kernel_rfl
 v22:=fun w=>by kernel_rfl
 i3:=by kernel_rfl
def rho189:Go.Shelf.Ren:={f:=fun n=>if n=189 then 124 else if n=125 then 202 else if n=257 then 201 else if n=128 then 256 else if n=129 then 257 else if n=294 then 247 else if n=295 then 248 else if n=296 then 249 else if n=297 then 250 else if n=298 then 251 else if n=299 then 252 else if n=216 then 253 else if n=300 then 254 else if n=301 then 255 else if n=328 then 292 else if n=329 then 293 else if n=330 then 294 else if n=331 then 295 else if n=332 then 296 else if n=215 then 297 else if n=343 then 311 else n,t:=fun n=>if n=28 then 25 else if n=46 then 151 else if n=51 then 210 else if n=53 then 232 else if n=183 then 223 else if n=182 then 222 else if n=131 then 228 else if n=218 then 255 else if n=222 then 259 else if n=228 then 268 else if n=229 then 269 else n,g:=fun n=>n}
theorem lays189:Go.Proofs.Lays.n189 Tryz.prog rho189 where
 mixed:=by kernel_rfl
 f125:=Tryz.func202.trans (congrArg some (by kernel_rfl))
 f128:=Tryz.func256.trans (congrArg some (by kernel_rfl))
 f129:=Tryz.func257.trans (congrArg some (by kernel_rfl))
 f189:=Tryz.func124.trans (congrArg some (by kernel_rfl))
 f215:=Tryz.func297.trans (congrArg some (by kernel_rfl))
 f216:=Tryz.func253.trans (congrArg some (by kernel_rfl))
 f257:=Tryz.func201.trans (congrArg some (by kernel_rfl))
 f294:=Tryz.func247.trans (congrArg some (by kernel_rfl))
 f295:=Tryz.func248.trans (congrArg some (by kernel_rfl))
 f296:=Tryz.func249.trans (congrArg some (by kernel_rfl))
 f297:=Tryz.func250.trans (congrArg some (by kernel_rfl))
 f298:=Tryz.func251.trans (congrArg some (by kernel_rfl))
 f299:=Tryz.func252.trans (congrArg some (by kernel_rfl))
 f300:=Tryz.func254.trans (congrArg some (by kernel_rfl))
 f301:=Tryz.func255.trans (congrArg some (by kernel_rfl))
 f328:=Tryz.func292.trans (congrArg some (by kernel_rfl))
 f329:=Tryz.func293.trans (congrArg some (by kernel_rfl))
 f330:=Tryz.func294.trans (congrArg some (by kernel_rfl))
 f331:=Tryz.func295.trans (congrArg some (by kernel_rfl))
 f332:=Tryz.func296.trans (congrArg some (by kernel_rfl))
 f343:=Tryz.func311.trans (congrArg some (by kernel_rfl))
 t0:=by kernel_rfl
 a0:=fun w=>by kernel_rfl
 z0:=fun w=>by kernel_rfl
 v0:=fun w=>by kernel_rfl
 t3:=by kernel_rfl
 a3:=fun w=>by kernel_rfl
 z3:=fun w=>by kernel_rfl
 v3:=fun w=>by kernel_rfl
 t4:=by kernel_rfl
 a4:=fun w=>by kernel_rfl
 z4:=fun w=>by kernel_rfl
 v4:=fun w=>by kernel_rfl
 t5:=by kernel_rfl
 a5:=fun w=>by kernel_rfl
 z5:=fun w=>by kernel_rfl
 v5:=fun w=>by kernel_rfl
 t9:=by kernel_rfl
 a9:=fun w=>by kernel_rfl
 z9:=fun w=>by kernel_rfl
 v9:=fun w=>by kernel_rfl
 t28:=by kernel_rfl
 a28:=fun w=>by kernel_rfl
 z28:=fun w=>by kernel_rfl
 v28:=fun w=>by kernel_rfl
 t46:=by kernel_rfl
 a46:=fun w=>by kernel_rfl
 z46:=fun w=>by kernel_rfl
 v46:=fun w=>by kernel_rfl
 t51:=by kernel_rfl
 a51:=fun w=>by kernel_rfl
 z51:=fun w=>by kernel_rfl
 v51:=fun w=>by kernel_rfl
 t53:=by kernel_rfl
 a53:=fun w=>by kernel_rfl
 z53:=fun w=>by kernel_rfl
 v53:=fun w=>by kernel_rfl
 t131:=by kernel_rfl
 a131:=fun w=>by kernel_rfl
 z131:=fun w=>by kernel_rfl
 v131:=fun w=>by kernel_rfl
 t182:=by kernel_rfl
 a182:=fun w=>by kernel_rfl
 z182:=fun w=>by kernel_rfl
 v182:=fun w=>by kernel_rfl
 t183:=by kernel_rfl
 a183:=fun w=>by kernel_rfl
 z183:=fun w=>by kernel_rfl
 v183:=fun w=>by kernel_rfl
 t218:=by kernel_rfl
 a218:=fun w=>by kernel_rfl
 z218:=fun w=>by kernel_rfl
 v218:=fun w=>by kernel_rfl
 t222:=by kernel_rfl
 a222:=fun w=>by kernel_rfl
 z222:=fun w=>by kernel_rfl
 v222:=fun w=>by kernel_rfl
 t228:=by kernel_rfl
 a228:=fun w=>by kernel_rfl
 z228:=fun w=>by kernel_rfl
 v228:=fun w=>by kernel_rfl
 t229:=by kernel_rfl
 a229:=fun w=>by kernel_rfl
 z229:=fun w=>by kernel_rfl
 v229:=fun w=>by kernel_rfl
theorem ext135:Mx.uB Tryz.prog F 135 Mx.tO:=
 Mx.EN (by kernel_rfl) (fun p cap w=>Go.Proofs.Any.slices_Sort_int_none lays189 p cap w) (fun jL off cap zs w h1 h2 h3=>Go.Proofs.Any.slices_Sort_int lays189 jL off cap zs w h1 h2 h3)
theorem ext136:Mx.uB Tryz.prog F 136 Mx.nF:=
 Mx.zJ (by kernel_rfl) (fun p cap w=>Go.Proofs.Any.slices_Compact_int_empty lays20 p cap w) (fun jL off cap zs w h1 h2 h3=>Go.Proofs.Any.slices_Compact_int lays20 jL off cap zs w h1 h2 h3) Mx.zM
section
open Go.Shelf Go.RowKit Go.Lib Go.Proofs
theorem run_copy_cellsK{P:Program}(w:World)(dT sT ty elem:TypeId)(k:Nat)(b o dLen dCap:Nat)(a:Addr)(sLen sCap:Nat)(cs:List Value)
  (hu:P.underlying dT=some (.slice elem)) (hs:(P.info? elem).map (·.size)=some k) (hn:cs.length=Nat.min sLen dLen*k)
  (hsrc:∀j v,cs[j]? =some v→w.cell? (a.add j)=some v) (hc:∀j,j<cs.length→(w.cell? ⟨b,o+j,none⟩).isSome=true) (hf:∀j,j<cs.length→w.frozen? ⟨b,o+j,none⟩=false) (h1:∀v∈cs,v.oneCell'=true):
  (Builtin.copy_ #[dT,sT] ty #[.slice (some ⟨b,o,none⟩) dLen dCap,.slice (some a) sLen sCap]).run P w= .ok (goInt (Nat.min sLen dLen)) (w.setCells b o cs):=by
 have hl:=run_loadCells_list (P:=P) w a cs hsrc;have hst:=run_storeCells_cells (P:=P) b o cs 0 w (by simpa using hc) (by simpa using hf) h1;cases hq:P.info? elem with
 |none=>simp[hq] at hs
 |some i=>
  have hi:i.size=k:=by simpa [hq] using hs
  rw[hn] at hl;simp[Builtin.copy_,run_underlying hu,Builtin.lenOf,Builtin.firstCells,sizeOf,typeInfo,hq,hi,hl,hst]
theorem t24:Tryz.prog.underlying 24=some (.slice 55):=by kernel_rfl
theorem t3:Tryz.prog.underlying 3=some (.int .i64):=by kernel_rfl
theorem t4:Tryz.prog.underlying 4=some .bool:=by kernel_rfl
theorem a24(w:World):(isAgg 24).run Tryz.prog w= .ok false w:=by kernel_rfl
theorem a3(w:World):(isAgg 3).run Tryz.prog w= .ok false w:=by kernel_rfl
theorem a4(w:World):(isAgg 4).run Tryz.prog w= .ok false w:=by kernel_rfl
theorem z55(w:World):(Go.sizeOf 55).run Tryz.prog w= .ok 7 w:=by kernel_rfl
theorem z24(w:World):(Go.sizeOf 24).run Tryz.prog w= .ok 1 w:=by kernel_rfl
theorem z3(w:World):(Go.sizeOf 3).run Tryz.prog w= .ok 1 w:=by kernel_rfl
theorem v24(w:World):(zeroValue 24).run Tryz.prog w= .ok (.slice none 0 0) w:=by kernel_rfl
theorem v3(w:World):(zeroValue 3).run Tryz.prog w= .ok (.int .i64 0) w:=by kernel_rfl
theorem sz55:(Tryz.prog.info? 55).map (·.size)=some 7:=by kernel_rfl
theorem mixed:Tryz.prog.follows .mixedOrders=true:=by kernel_rfl
set_option maxHeartbeats 4000000 in
set_option maxRecDepth 100000 in
theorem ins_shift(b n c i vb vc:Nat)(cs vs:List Value)(w:World)(hi:i<n)(hroom:n+1≤c)(hbn:n≤1048576)(hvb:vb≠b)
  (hcl:cs.length=n*7) (hvl:vs.length=7)
  (hcs:∀j v,cs[j]? =some v→w.cell? ⟨b,j,none⟩=some v) (hsp:∀j,j<(n+1)*7→(w.cell? ⟨b,j,none⟩).isSome=true) (hfz:∀j,j<(n+1)*7→w.frozen? ⟨b,j,none⟩=false)
  (hvs:∀j v,vs[j]? =some v→w.cell? ⟨vb,j,none⟩=some v) (h1c:∀v∈cs,v.oneCell'=true) (h1v:∀v∈vs,v.oneCell'=true)
  (tA tB:TypeId) (kA kB:Nat) (hsa:w.shape? vb=some (tA,kA)) (hsb:w.shape? b=some (tB,kB)) (hkB:kB≠0) (hfa:w.frozen? ⟨vb,0,none⟩=false) (hfe:w.frozen? ⟨vb,kA,none⟩=false):
  Calls Tryz.prog 168 #[.slice (some ⟨b,0,none⟩) n c,.int .i64 i,.slice (some ⟨vb,0,none⟩) 1 vc] w fun e w'=>
   e= .returned (.slice (some ⟨b,0,none⟩) (n+1) c)∧w'=(w.drew.setCells b ((i+1)*7) (cs.drop (i*7))).setCells b (i*7) vs:=by
 have u3:=run_underlying t3;have u4:=run_underlying t4;have u24:=run_underlying t24;have t24:=t24;have a24:=a24;have a3:=a3;have a4:=a4;have z55:=z55;have z24:=z24;have z3:=z3;have v24:=v24;have v3:=v3;have mixed:=mixed;have hz2:¬((i:Int)=(n:Int)):=by omega
 have hov:∀lb cb,(callFunc 228 #[.slice (some ⟨vb,0,none⟩) 1 vc,.slice (some ⟨b,(i+1)*7,none⟩) lb cb]).run Tryz.prog w= .ok (.value (.bool false)) w:=fun lb cb=>by
  rw[run_callFunc_extern Tryz.func228 (by kernel_rfl) (by kernel_rfl) (by kernel_rfl) (e:=Extern.SlicesOverlaps.overlaps #[24,24] #[4]) (by kernel_rfl),
   Lib.run_overlaps_apart w 24 4 55 t24 7 z55 ⟨vb,0,none⟩ ⟨b,(i+1)*7,none⟩ 1 vc lb cb hvb tA tB kA kB hsa hsb hkB hfa hfe]
  rfl
 have hdl:(cs.drop (i*7)).length=(n-i)*7:=by rw[List.length_drop,hcl];omega
 have hw1:IntKind.i64.wrap ((i:Int)+1)=(i:Int)+1:=by rw[IntKind.wrap_i64];omega
 have hb1:(0:Int)≤(i:Int)+1:=by omega
 have hin:i≤n:=by omega
 have htn:((i:Int)+1).toNat=i+1:=by omega
 have hb2:¬(c=i+1):=by omega
 have hb3:(i:Int)≤(n:Int)+1:=by omega
 have hb4:¬(c=i):=by omega
 have hcp1:∀ty dc sc,(Builtin.copy_ #[24,24] ty #[.slice (some ⟨b,(i+1)*7,none⟩) (n-i) dc,.slice (some ⟨b,i*7,none⟩) (n+1-i) sc]).run Tryz.prog w.drew= .ok (goInt (Nat.min (n+1-i) (n-i))) (w.drew.setCells b ((i+1)*7) (cs.drop (i*7))):=fun ty dc sc=>
  run_copy_cellsK w.drew _ _ ty 55 7 b ((i+1)*7) (n-i) dc ⟨b,i*7,none⟩ (n+1-i) sc (cs.drop (i*7)) t24 sz55 (by rw[hdl];simp only[Nat.min_def];split<;>omega)
   (fun j v hj=>by rw[Addr.add_lit];exact hcs (i*7+j) v (by rwa [List.getElem?_drop] at hj))
   (fun j hj=>hsp _ (by omega)) (fun j hj=>hfz _ (by omega)) (fun v hv=>h1c v (List.mem_of_mem_drop hv))
 obtain⟨W1,hW1⟩:∃W1,W1=w.drew.setCells b ((i+1)*7) (cs.drop (i*7)):=⟨_,rfl⟩
 have hsp1:∀k,k<(n+1)*7→(W1.cell? ⟨b,k,none⟩).isSome=true:=fun k hk=>by
  rw[hW1];exact isSome_setCells b (cs.drop (i*7)) ((i+1)*7) w.drew (fun j hj=>hsp _ (by omega)) _ (hsp k hk)
 have hcp2:∀(W:World),(∀x,W.cell? x=W1.cell? x)→(∀x,W.frozen? x=W1.frozen? x)→∀ty dc,(Builtin.copy_ #[24,24] ty #[.slice (some ⟨b,i*7,none⟩) (n+1-i) dc,.slice (some ⟨vb,0,none⟩) 1 vc]).run Tryz.prog W= .ok (goInt (Nat.min 1 (n+1-i))) (W.setCells b (i*7) vs):=fun W hWc hWf ty dc=>
  run_copy_cellsK W _ _ ty 55 7 b (i*7) (n+1-i) dc ⟨vb,0,none⟩ 1 vc vs t24 sz55 (by rw[hvl];simp only[Nat.min_def];split<;>omega)
   (fun j v hj=>by
    rw[Addr.add_lit,hWc,hW1,World.cell?_setCells_out b _ _ _ _ (fun h _=>absurd h hvb),Nat.zero_add];exact hvs j v hj)
   (fun j hj=>by rw[hWc];exact hsp1 _ (by omega)) (fun j hj=>by rw[hWf,hW1,World.frozen?_setCells];exact hfz _ (by omega)) h1v
 rw[←hW1] at hcp1
 go_enter Tryz.func168,Tryz.ntmps168
 go_wp2_with (simp only[hov])
 go_region_law_o (refine step_copy_runI rfl _ _ 24 24 rfl _ _ (by simp[Act.eval,Act.put]) (by simp[Act.eval,Act.put]) (hcp1 _ _ _) ?_)
 go_wp2_with (at_builtin;refine wpList_copy_runI _ rfl _ _ 24 24 rfl _ _ rfl rfl (hcp2 _ (fun _=>rfl) (fun _=>rfl) _ _) ?_)
 go_ret
 first|exact⟨rfl,rfl⟩|exact⟨rfl,by rw[hW1]⟩
set_option maxHeartbeats 4000000 in
set_option maxRecDepth 100000 in
theorem ins_end(base:Option Addr)(n c vb vc:Nat)(w w1:World)(val:Value)(hbn:base=none→n=0)(hb0:∀a,base=some a→∃b,a=⟨b,0,none⟩)(hn:n≤c)
  (hrun:∀ty,(Builtin.append_ #[24,24] ty #[.slice base n c,.slice (some ⟨vb,0,none⟩) 1 vc]).run Tryz.prog w= .ok val w1):
  Calls Tryz.prog 168 #[.slice base n c,.int .i64 n,.slice (some ⟨vb,0,none⟩) 1 vc] w fun e w'=>e= .returned val∧w'=w1:=by
 have u3:=run_underlying t3;have u4:=run_underlying t4;have u24:=run_underlying t24;have t24:=t24;have a24:=a24;have a3:=a3;have a4:=a4;have z55:=z55;have z24:=z24;have z3:=z3;have v24:=v24;have v3:=v3;have mixed:=mixed
 go_enter Tryz.func168,Tryz.ntmps168
 cases base with
 |none=>
  have h0:=hbn rfl;subst h0
  go_wp2_with (at_builtin;refine Lib.wpList_append_run _ rfl _ _ _ _ rfl _ _ rfl rfl _ _ (hrun _) ?_)
  go_ret
  exact⟨rfl,rfl⟩
 |some a=>
  obtain⟨b,rfl⟩:=hb0 a rfl
  go_wp2_with (at_builtin;refine Lib.wpList_append_run _ rfl _ _ _ _ rfl _ _ rfl rfl _ _ (hrun _) ?_)
  all_goals (go_ret;exact⟨rfl,rfl⟩)
theorem info55:∃i z,Tryz.prog.info? 55=some i∧i.zero=some z∧i.size=7∧i.bytes≤4096∧z.cells.size=7:=by
 have h:(match Tryz.prog.info? 55 with|some i=>(match i.zero with|some z=>i.size==7&&decide (i.bytes≤4096)&&z.cells.size==7|none=>false)|none=>false)=true:=by kernel_rfl
 split at h
 ·rename_i i hi;split at h
  ·rename_i z hz;simp only[Bool.and_eq_true,beq_iff_eq,decide_eq_true_eq] at h;exact⟨i,z,hi,hz,h.1.1,h.1.2,h.2⟩
  ·cases h
 ·cases h
set_option maxHeartbeats 4000000 in
set_option maxRecDepth 100000 in
theorem ins_grow(b n c i vb vc:Nat)(cs vs:List Value)(w:World)(hi:i<n)(hnc:n≤c)(hroom:c<n+1)(hbig:n≤1048576)
  (hcl:cs.length=n*7) (hvl:vs.length=7)
  (hcs:∀j v,cs[j]? =some v→w.cell? ⟨b,j,none⟩=some v)
  (hvs:∀j v,vs[j]? =some v→w.cell? ⟨vb,j,none⟩=some v) (h1c:∀v∈cs,v.oneCell'=true) (h1v:∀v∈vs,v.oneCell'=true):
  Calls Tryz.prog 168 #[.slice (some ⟨b,0,none⟩) n c,.int .i64 i,.slice (some ⟨vb,0,none⟩) 1 vc] w fun e w'=>
   ∃(G:Nat) (row:Array Value),n+1≤G∧row.size=G*7∧e= .returned (.slice (some ⟨w.heap.size,0,none⟩) (n+1) G)∧(∀j,j<i*7→row[j]? =cs[j]?)∧
   w'=(((w.alloc (.cells row 55)).drew.setCells w.heap.size (i*7) vs).drew).setCells w.heap.size ((i+1)*7) (cs.drop (i*7)):=by
 have u3:=run_underlying t3;have u4:=run_underlying t4;have u24:=run_underlying t24;have t3:=t3;have t24:=t24;have a24:=a24;have a3:=a3;have a4:=a4;have z55:=z55;have z24:=z24;have z3:=z3;have v24:=v24;have v3:=v3;have mixed:=mixed;obtain⟨i0,z0,hi0,hz0,hzs,hzb,hzc⟩:=info55;have hz2:¬((i:Int)=(n:Int)):=by omega
 have hz3:(c:Int)<(n:Int)+1:=by omega
 have hbw:b<w.heap.size:=block_lt_of_cell (hcs 0 _ (List.getElem?_eq_getElem (by omega)));have hvw:vb<w.heap.size:=block_lt_of_cell (hvs 0 _ (List.getElem?_eq_getElem (by omega)));have hkk:(n:Int)+1-(i:Int)=((n+1-i:Nat):Int):=by omega
 have hik:i+(n+1-i)=n+1:=by omega
 have htl:(cs.take (i*7)).length=i*7:=by rw[List.length_take,hcl];omega
 have hold:(Builtin.firstCells i0.size i (.slice (some ⟨b,0,none⟩) i c)).run Tryz.prog w.drew= .ok (cs.take (i*7)).toArray w.drew:=by
  rw[hzs];exact run_firstCells_some w.drew 7 i ⟨b,0,none⟩ i c (cs.take (i*7)) (by rw[htl]) (fun j v hj=>by
   rw[Addr.add_lit,Nat.zero_add];rw[List.getElem?_take] at hj;split at hj
   ·exact hcs j v hj
   ·cases hj)
 have hfit:Builtin.nextslicecap (n+1) c*i0.bytes≤281474976710656:=by
  refine growslice_fits hroom ?_
  calc (n+1)*i0.bytes≤1048577*4096:=Nat.mul_le_mul (by omega) hzb
   _≤140737488355328:=by decide
 have hrz:∀ty,(Builtin.append_ #[24,3] ty #[.slice (some ⟨b,0,none⟩) i c,.int .i64 ((n:Int)+1-(i:Int))]).run Tryz.prog w=
   .ok (.slice (some ⟨w.heap.size,0,none⟩) (n+1) (grownCap w (n+1) c 55)) (w.drew.alloc (.cells ((cs.take (i*7)).toArray++Builtin.zeroCells z0.cells (n+1-i)++Builtin.zeroCells z0.cells (grownCap w (n+1) c 55-(n+1))) 55)):=fun ty=>by
  have h:=Lib.run_append_grow_zeros w 24 3 ty 55 i0 _ .i64 .i64 t24 t3 hi0 hz0 (some ⟨b,0,none⟩) i c (cs.take (i*7)) hold (n+1-i) (by omega) (by omega) (by omega) (by omega) (by
   calc (n+1-i)*i0.bytes≤1048577*4096:=Nat.mul_le_mul (by omega) hzb
    _≤281474976710656:=by decide) (by rw[hik];exact hfit)
  rw[hik] at h;rw[hkk];exact h
 obtain⟨G,hG⟩:∃G,G=grownCap w (n+1) c 55:=⟨_,rfl⟩
 have hGn:n+1≤G:=by rw[hG];exact grownCap_ge w _ _ _
 have hG63:G≤9223372036854775807:=by
  have:=grownCap_le_maxLen w (n+1) c 55 (by unfold maxLen;omega);rw[←hG] at this;unfold maxLen at this;omega
 obtain⟨ROW,hROW⟩:∃ROW:Array Value,ROW=(cs.take (i*7)).toArray++Builtin.zeroCells z0.cells (n+1-i)++Builtin.zeroCells z0.cells (G-(n+1)):=⟨_,rfl⟩
 rw[←hG] at hrz;rw[←hROW] at hrz;have hRs:ROW.size=G*7:=by
  rw[hROW];simp only[Builtin.zeroCells,Array.size_append,List.size_toArray,htl,hzc,Array.size_map,Array.size_range];omega
 have hRt:∀j,j<i*7→ROW[j]? =cs[j]? :=fun j hj=>by
  rw[hROW,Array.append_assoc,Array.getElem?_append_left (by simp;omega)];rw[List.getElem?_toArray,List.getElem?_take,if_pos hj]
 have hRl:(n+1)*7≤ROW.size:=by rw[hRs];exact Nat.mul_le_mul_right 7 hGn
 obtain⟨W1,hW1⟩:∃W1,W1=w.drew.alloc (.cells ROW 55):=⟨_,rfl⟩
 rw[←hW1] at hrz;have hN:∀j,j<(n+1)*7→(W1.cell? ⟨w.heap.size,j,none⟩).isSome=true:=fun j hj=>by
  rw[hW1,World.cell?_alloc_at (w:=w.drew) ROW _ w.heap.size j rfl,Array.getElem?_eq_getElem (by omega)];rfl
 have hNf:∀j,W1.frozen? ⟨w.heap.size,j,none⟩=false:=fun j=>by rw[hW1];exact World.frozen?_alloc_at (w:=w.drew) ROW _ w.heap.size j rfl
 have hOb:∀j v,w.cell? ⟨b,j,none⟩=some v→W1.cell? ⟨b,j,none⟩=some v:=fun j v h=>by rw[hW1,World.cell?_alloc_past (w:=w.drew) _ b j hbw];exact h
 have hOv:∀j v,w.cell? ⟨vb,j,none⟩=some v→W1.cell? ⟨vb,j,none⟩=some v:=fun j v h=>by rw[hW1,World.cell?_alloc_past (w:=w.drew) _ vb j hvw];exact h
 have hcpA:∀(W:World),(∀x,W.cell? x=W1.cell? x)→(∀x,W.frozen? x=W1.frozen? x)→∀ty dc,(Builtin.copy_ #[24,24] ty #[.slice (some ⟨w.heap.size,i*7,none⟩) (n+1-i) dc,.slice (some ⟨vb,0,none⟩) 1 vc]).run Tryz.prog W= .ok (goInt (Nat.min 1 (n+1-i))) (W.setCells w.heap.size (i*7) vs):=fun W hWc hWf ty dc=>
  run_copy_cellsK W _ _ ty 55 7 w.heap.size (i*7) (n+1-i) dc ⟨vb,0,none⟩ 1 vc vs t24 sz55 (by rw[hvl];simp only[Nat.min_def];split<;>omega)
   (fun j v hj=>by rw[Addr.add_lit,hWc,Nat.zero_add];exact hOv _ v (hvs j v hj))
   (fun j hj=>by rw[hWc];exact hN _ (by omega)) (fun j hj=>by rw[hWf];exact hNf _) h1v
 have hGi:¬(G=i):=by omega
 have hGim:¬(G=i+1):=by omega
 have hci:¬(c=i):=by omega
 have hbN:b≠w.heap.size:=by omega
 have hdl:(cs.drop (i*7)).length=(n-i)*7:=by rw[List.length_drop,hcl];omega
 have hcpB:∀(W:World),(∀x,W.cell? x=(W1.setCells w.heap.size (i*7) vs).cell? x)→(∀x,W.frozen? x=(W1.setCells w.heap.size (i*7) vs).frozen? x)→∀ty dc sc,(Builtin.copy_ #[24,24] ty #[.slice (some ⟨w.heap.size,(i+1)*7,none⟩) (n-i) dc,.slice (some ⟨b,i*7,none⟩) (n-i) sc]).run Tryz.prog W= .ok (goInt (Nat.min (n-i) (n-i))) (W.setCells w.heap.size ((i+1)*7) (cs.drop (i*7))):=fun W hWc hWf ty dc sc=>
  run_copy_cellsK W _ _ ty 55 7 w.heap.size ((i+1)*7) (n-i) dc ⟨b,i*7,none⟩ (n-i) sc (cs.drop (i*7)) t24 sz55 (by rw[hdl];simp)
   (fun j v hj=>by
    rw[Addr.add_lit,hWc,World.cell?_setCells_out _ _ _ _ _ (fun h _=>absurd h hbN)];exact hOb _ v (hcs (i*7+j) v (by rwa [List.getElem?_drop] at hj)))
   (fun j hj=>by rw[hWc];exact isSome_setCells w.heap.size vs (i*7) W1 (fun t ht=>hN _ (by omega)) _ (hN _ (by omega)))
   (fun j hj=>by rw[hWf,World.frozen?_setCells];exact hNf _) (fun v hv=>h1c v (List.mem_of_mem_drop hv))
 subst hW1;have hE1:∀x,((w.alloc (.cells ROW 55)).drew).cell? x=(w.drew.alloc (.cells ROW 55)).cell? x:=fun x=>rfl
 have hE2:∀x,((w.alloc (.cells ROW 55)).drew).frozen? x=(w.drew.alloc (.cells ROW 55)).frozen? x:=fun x=>rfl
 have hF1:∀x,(((w.alloc (.cells ROW 55)).drew.setCells w.heap.size (i*7) vs).drew).cell? x=((w.drew.alloc (.cells ROW 55)).setCells w.heap.size (i*7) vs).cell? x:=fun x=>rfl
 have hF2:∀x,(((w.alloc (.cells ROW 55)).drew.setCells w.heap.size (i*7) vs).drew).frozen? x=((w.drew.alloc (.cells ROW 55)).setCells w.heap.size (i*7) vs).frozen? x:=fun x=>rfl
 have hw1:IntKind.i64.wrap ((i:Int)+1)=(i:Int)+1:=by rw[IntKind.wrap_i64];omega
 have hb1:(0:Int)≤(i:Int)+1:=by omega
 have hin:i≤n:=by omega
 have htn:((i:Int)+1).toNat=i+1:=by omega
 have hb3:(i:Int)≤(n:Int):=by omega
 have hfin:∀e w',(e=Ending.returned (.slice (some ⟨w.heap.size,0,none⟩) (n+1) G)∧w'=(((w.alloc (.cells ROW 55)).drew.setCells w.heap.size (i*7) vs).drew).setCells w.heap.size ((i+1)*7) (cs.drop (i*7)))→∃(G:Nat) (row:Array Value),n+1≤G∧row.size=G*7∧e= .returned (.slice (some ⟨w.heap.size,0,none⟩) (n+1) G)∧(∀j,j<i*7→row[j]? =cs[j]?)∧
   w'=(((w.alloc (.cells row 55)).drew.setCells w.heap.size (i*7) vs).drew).setCells w.heap.size ((i+1)*7) (cs.drop (i*7)):=fun e w' h=>⟨G,ROW,hGn,hRs,h.1,hRt,h.2⟩
 clear hkk hik hold hROW hG hRl hRt hfit hi0 hz0;refine Calls.mono ?_ hfin;clear hfin
 go_enter Tryz.func168,Tryz.ntmps168
 go_wp2_with (first
  |(at_builtin;refine Lib.wpList_append_run _ rfl _ _ _ _ rfl _ _ rfl rfl _ _ (hrz _) ?_)
  |(at_builtin;refine wpList_copy_runI _ rfl _ _ 24 24 rfl _ _ rfl rfl (hcpA _ hE1 hE2 _ _) ?_)
  |(at_builtin;refine wpList_copy_runI _ rfl _ _ 24 24 rfl _ _ rfl rfl (hcpB _ (fun _=>rfl) (fun _=>rfl) _ _ _) ?_))
 go_region_law_o (refine step_copy_runI rfl _ _ 24 24 rfl (.slice (some ⟨w.heap.size,(i+1)*7,none⟩) (n-i) (G-(i+1))) (.slice (some ⟨b,i*7,none⟩) (n-i) (c-i)) (by simp[Act.eval,Act.put]) (by simp[Act.eval,Act.put]) (hcpB _ hF1 hF2 3 (G-(i+1)) (c-i)) ?_)
 go_wp2
 go_ret
 exact⟨rfl,rfl⟩
end
theorem ext440:Mx.uB Tryz.prog F 440 Mx.A2:=
 Mx.Hj (tS:=24) (tE:=55) (bytes:=96) (zero:=[.int .i64 0,.str ⟨#[]⟩,.int .i64 0,.int .i64 0,.int .i64 0,.aN 4,.aN 1]) (by kernel_rfl) (by kernel_rfl) (by kernel_rfl) (by kernel_rfl) (by decide) (by kernel_rfl)
  (fun base n c vb vc w w1 val h1 h2 h3 h4=>ins_end base n c vb vc w w1 val h1 h2 h3 h4)
  (fun b n c i vb vc cs vs w h1 h2 h3 h4 h5 h6 h7 h8 h9 h10 h11 h12 tA tB kA kB h13 h14 h15 h16 h17=>ins_shift b n c i vb vc cs vs w h1 h2 h3 h4 h5 h6 h7 h8 h9 h10 h11 h12 tA tB kA kB h13 h14 h15 h16 h17)
  (fun b n c i vb vc cs vs w h1 h2 h3 h4 h5 h6 h7 h8 h9 h10=>ins_grow b n c i vb vc cs vs w h1 h2 h3 h4 h5 h6 h7 h8 h9 h10)
theorem ok36:Mx.aK Tryz.prog F 36 Mx.ky.m=true:=by kernel_rfl
theorem ok234:Mx.aK Tryz.prog F 234 Mx.bN.m=true:=by kernel_rfl
theorem ok156:Mx.aK Tryz.prog F 156 Mx.aH.m=true:=by kernel_rfl
theorem ok101:Mx.aK Tryz.prog F 101 Mx.b_.m=true:=by kernel_rfl
theorem ok147:Mx.aK Tryz.prog F 147 Mx.fT.m=true:=by kernel_rfl
theorem ok165:Mx.aK Tryz.prog F 165 Mx.da.m=true:=by kernel_rfl
theorem ok89:Mx.aK Tryz.prog F 89 Mx.dP.m=true:=by kernel_rfl
theorem ok164:Mx.aK Tryz.prog F 164 Mx.fX.m=true:=by kernel_rfl
theorem ok272:Mx.aK Tryz.prog F 272 Mx.iF.m=true:=by kernel_rfl
theorem ok235:Mx.aK Tryz.prog F 235 Mx.dw.m=true:=by kernel_rfl
theorem ok166:Mx.aK Tryz.prog F 166 Mx.fk.m=true:=by kernel_rfl
theorem ok161:Mx.aK Tryz.prog F 161 Mx.aA.m=true:=by kernel_rfl
theorem ok160:Mx.aK Tryz.prog F 160 Mx.f_.m=true:=by kernel_rfl
theorem ok72:Mx.aK Tryz.prog F 72 Mx.cE.m=true:=by kernel_rfl
theorem ok74:Mx.aK Tryz.prog F 74 Mx.bG.m=true:=by kernel_rfl
theorem ok200:Mx.aK Tryz.prog F 200 Mx.ay.m=true:=by kernel_rfl
theorem ok271:Mx.aK Tryz.prog F 271 Mx.fc.m=true:=by kernel_rfl
theorem ok228:Mx.aK Tryz.prog F 228 Mx.dE.m=true:=by kernel_rfl
theorem ok229:Mx.aK Tryz.prog F 229 Mx.cN.m=true:=by kernel_rfl
theorem ok150:Mx.aK Tryz.prog F 150 Mx.aJ.m=true:=by kernel_rfl
theorem ok159:Mx.aK Tryz.prog F 159 Mx.ch.m=true:=by kernel_rfl
theorem ok116:Mx.aK Tryz.prog F 116 Mx.bK.m=true:=by kernel_rfl
theorem ok31:Mx.aK Tryz.prog F 31 Mx.cU.m=true:=by kernel_rfl
theorem ok421:Mx.aK Tryz.prog F 421 Mx.fI.m=true:=by kernel_rfl
theorem ok124:Mx.aK Tryz.prog F 124 Mx.fK.m=true:=by kernel_rfl
theorem ok131:Mx.aK Tryz.prog F 131 Mx.fu.m=true:=by kernel_rfl
theorem ok125:Mx.aK Tryz.prog F 125 Mx.bD.m=true:=by kernel_rfl
theorem ok113:Mx.aK Tryz.prog F 113 Mx.fe.m=true:=by kernel_rfl
theorem ok132:Mx.aK Tryz.prog F 132 Mx.bf.m=true:=by kernel_rfl
theorem ok133:Mx.aK Tryz.prog F 133 Mx.bX.m=true:=by kernel_rfl
theorem ok43:Mx.aK Tryz.prog F 43 Mx.aU.m=true:=by kernel_rfl
theorem ok474:Mx.aK Tryz.prog F 474 Mx.fH.m=true:=by kernel_rfl
theorem ok241:Mx.aK Tryz.prog F 241 Mx.gF.m=true:=by kernel_rfl
theorem ok238:Mx.aK Tryz.prog F 238 Mx.fq.m=true:=by kernel_rfl
theorem ok180:Mx.aK Tryz.prog F 180 Mx.b6.m=true:=by kernel_rfl
theorem ok277:Mx.aK Tryz.prog F 277 Mx.gL.m=true:=by kernel_rfl
theorem ok91:Mx.aK Tryz.prog F 91 Mx.bM.m=true:=by kernel_rfl
theorem ok459:Mx.aK Tryz.prog F 459 Mx.gE.m=true:=by kernel_rfl
theorem ok460:Mx.aK Tryz.prog F 460 Mx.cY.m=true:=by kernel_rfl
theorem ok488:Mx.aK Tryz.prog F 488 Mx.fW.m=true:=by kernel_rfl
theorem ok472:Mx.aK Tryz.prog F 472 Mx.dJ.m=true:=by kernel_rfl
theorem ok461:Mx.aK Tryz.prog F 461 Mx.ff.m=true:=by kernel_rfl
theorem ok22:Mx.aK Tryz.prog F 22 Mx.dA.m=true:=by kernel_rfl
theorem ok462:Mx.aK Tryz.prog F 462 Mx.cQ.m=true:=by kernel_rfl
theorem ok439:Mx.aK Tryz.prog F 439 Mx.cS.m=true:=by kernel_rfl
theorem ok405:Mx.aK Tryz.prog F 405 Mx.ep.m=true:=by kernel_rfl
theorem ok247:Mx.aK Tryz.prog F 247 Mx.gi.m=true:=by kernel_rfl
theorem ok197:Mx.aK Tryz.prog F 197 Mx.cT.m=true:=by kernel_rfl
theorem ok475:Mx.aK Tryz.prog F 475 Mx.cv.m=true:=by kernel_rfl
theorem ok466:Mx.aK Tryz.prog F 466 Mx.aY.m=true:=by kernel_rfl
theorem ok446:Mx.aK Tryz.prog F 446 Mx.bI.m=true:=by kernel_rfl
theorem ok98:Mx.aK Tryz.prog F 98 Mx.bS.m=true:=by kernel_rfl
theorem ok186:Mx.aK Tryz.prog F 186 Mx.cu.m=true:=by kernel_rfl
theorem ok90:Mx.aK Tryz.prog F 90 Mx.dH.m=true:=by kernel_rfl
theorem ok183:Mx.aK Tryz.prog F 183 Mx.fV.m=true:=by kernel_rfl
theorem ok276:Mx.aK Tryz.prog F 276 Mx.iD.m=true:=by kernel_rfl
theorem ok242:Mx.aK Tryz.prog F 242 Mx.du.m=true:=by kernel_rfl
theorem ok187:Mx.aK Tryz.prog F 187 Mx.dI.m=true:=by kernel_rfl
theorem ok88:Mx.aK Tryz.prog F 88 Mx.bB.m=true:=by kernel_rfl
theorem ok226:Mx.aK Tryz.prog F 226 Mx.cz.m=true:=by kernel_rfl
theorem ok227:Mx.aK Tryz.prog F 227 Mx.bU.m=true:=by kernel_rfl
theorem ok149:Mx.aK Tryz.prog F 149 Mx.aI.m=true:=by kernel_rfl
theorem ok432:Mx.aK Tryz.prog F 432 Mx.eS.m=true:=by kernel_rfl
theorem ok219:Mx.aK Tryz.prog F 219 Mx.cj.m=true:=by kernel_rfl
theorem ok196:Mx.aK Tryz.prog F 196 Mx.dj.m=true:=by kernel_rfl
theorem ok283:Mx.aK Tryz.prog F 283 Mx.dv.m=true:=by kernel_rfl
theorem ok99:Mx.aK Tryz.prog F 99 Mx.bL.m=true:=by kernel_rfl
theorem ok221:Mx.aK Tryz.prog F 221 Mx.cm.m=true:=by kernel_rfl
theorem ok139:Mx.aK Tryz.prog F 139 Mx.cD.m=true:=by kernel_rfl
theorem ok202:Mx.aK Tryz.prog F 202 Mx.gG.m=true:=by kernel_rfl
theorem ok248:Mx.aK Tryz.prog F 248 Mx.cI.m=true:=by kernel_rfl
theorem ok201:Mx.aK Tryz.prog F 201 Mx.iQ.m=true:=by kernel_rfl
theorem ok167:Mx.aK Tryz.prog F 167 Mx.eI.m=true:=by kernel_rfl
theorem ok206:Mx.aK Tryz.prog F 206 Mx.dF.m=true:=by kernel_rfl
theorem ok140:Mx.aK Tryz.prog F 140 Mx.fY.m=true:=by kernel_rfl
theorem ok142:Mx.aK Tryz.prog F 142 Mx.dR.m=true:=by kernel_rfl
theorem ok141:Mx.aK Tryz.prog F 141 Mx.df.m=true:=by kernel_rfl
theorem ok52:Mx.aK Tryz.prog F 52 Mx.bO.m=true:=by kernel_rfl
theorem ok122:Mx.aK Tryz.prog F 122 Mx.ec.m=true:=by kernel_rfl
theorem ok34:Mx.aK Tryz.prog F 34 Mx.c_.m=true:=by kernel_rfl
theorem ok100:Mx.aK Tryz.prog F 100 Mx.ig.m=true:=by kernel_rfl
theorem ok60:Mx.aK Tryz.prog F 60 Mx.b9.m=true:=by kernel_rfl
theorem ok75:Mx.aK Tryz.prog F 75 Mx.bh.m=true:=by kernel_rfl
theorem ok146:Mx.aK Tryz.prog F 146 Mx.eO.m=true:=by kernel_rfl
theorem ok58:Mx.aK Tryz.prog F 58 Mx.aX.m=true:=by kernel_rfl
theorem ok300:Mx.aK Tryz.prog F 300 Mx.ei.m=true:=by kernel_rfl
theorem ok301:Mx.aK Tryz.prog F 301 Mx.dG.m=true:=by kernel_rfl
theorem ok278:Mx.aK Tryz.prog F 278 Mx.bT.m=true:=by kernel_rfl
theorem ok282:Mx.aK Tryz.prog F 282 Mx.cF.m=true:=by kernel_rfl
theorem ok181:Mx.aK Tryz.prog F 181 Mx.fL.m=true:=by kernel_rfl
theorem ok81:Mx.aK Tryz.prog F 81 Mx.dU.m=true:=by kernel_rfl
theorem ok302:Mx.aK Tryz.prog F 302 Mx.dX.m=true:=by kernel_rfl
theorem ok279:Mx.aK Tryz.prog F 279 Mx.dq.m=true:=by kernel_rfl
theorem ok243:Mx.aK Tryz.prog F 243 Mx.iE.m=true:=by kernel_rfl
theorem ok184:Mx.aK Tryz.prog F 184 Mx.cK.m=true:=by kernel_rfl
theorem ok84:Mx.aK Tryz.prog F 84 Mx.dB.m=true:=by kernel_rfl
theorem ok280:Mx.aK Tryz.prog F 280 Mx.dg.m=true:=by kernel_rfl
theorem ok86:Mx.aK Tryz.prog F 86 Mx.cZ.m=true:=by kernel_rfl
theorem ok281:Mx.aK Tryz.prog F 281 Mx.dh.m=true:=by kernel_rfl
theorem ok468:Mx.aK Tryz.prog F 468 Mx.cM.m=true:=by kernel_rfl
theorem ok175:Mx.aK Tryz.prog F 175 Mx.gU.m=true:=by kernel_rfl
theorem ok185:Mx.aK Tryz.prog F 185 Mx.dS.m=true:=by kernel_rfl
theorem ok174:Mx.aK Tryz.prog F 174 Mx.fU.m=true:=by kernel_rfl
theorem ok244:Mx.aK Tryz.prog F 244 Mx.a_.m=true:=by kernel_rfl
theorem ok519:Mx.aK Tryz.prog F 519 Mx.bu.m=true:=by kernel_rfl
theorem ok516:Mx.aK Tryz.prog F 516 Mx.de.m=true:=by kernel_rfl
theorem ok508:Mx.aK Tryz.prog F 508 Mx.gk.m=true:=by kernel_rfl
theorem ok134:Mx.aK Tryz.prog F 134 Mx.eJ.m=true:=by kernel_rfl
theorem ok44:Mx.aK Tryz.prog F 44 Mx.fh.m=true:=by kernel_rfl
theorem ok477:Mx.aK Tryz.prog F 477 Mx.eC.m=true:=by kernel_rfl
theorem ok476:Mx.aK Tryz.prog F 476 Mx.eD.m=true:=by kernel_rfl
theorem ok239:Mx.aK Tryz.prog F 239 Mx.fZ.m=true:=by kernel_rfl
theorem ok233:Mx.aK Tryz.prog F 233 Mx.ee.m=true:=by kernel_rfl
theorem ok155:Mx.aK Tryz.prog F 155 Mx.cq.m=true:=by kernel_rfl
theorem ok275:Mx.aK Tryz.prog F 275 Mx.fJ.m=true:=by kernel_rfl
theorem ok485:Mx.aK Tryz.prog F 485 Mx.gI.m=true:=by kernel_rfl
theorem ok470:Mx.aK Tryz.prog F 470 Mx.dQ.m=true:=by kernel_rfl
theorem ok452:Mx.aK Tryz.prog F 452 Mx.fg.m=true:=by kernel_rfl
theorem ok20:Mx.aK Tryz.prog F 20 Mx.iH.m=true:=by kernel_rfl
theorem ok453:Mx.aK Tryz.prog F 453 Mx.aC.m=true:=by kernel_rfl
theorem ok454:Mx.aK Tryz.prog F 454 Mx.gA.m=true:=by kernel_rfl
theorem ok486:Mx.aK Tryz.prog F 486 Mx.ao.m=true:=by kernel_rfl
theorem ok471:Mx.aK Tryz.prog F 471 Mx.aL.m=true:=by kernel_rfl
theorem ok455:Mx.aK Tryz.prog F 455 Mx.aV.m=true:=by kernel_rfl
theorem ok457:Mx.aK Tryz.prog F 457 Mx.eP.m=true:=by kernel_rfl
theorem ok456:Mx.aK Tryz.prog F 456 Mx.gz.m=true:=by kernel_rfl
theorem ok23:Mx.aK Tryz.prog F 23 Mx.dC.m=true:=by kernel_rfl
theorem ok458:Mx.aK Tryz.prog F 458 Mx.gw.m=true:=by kernel_rfl
theorem ok437:Mx.aK Tryz.prog F 437 Mx.bW.m=true:=by kernel_rfl
theorem ok401:Mx.aK Tryz.prog F 401 Mx.gn.m=true:=by kernel_rfl
theorem ok478:Mx.aK Tryz.prog F 478 Mx.aD.m=true:=by kernel_rfl
theorem ok479:Mx.aK Tryz.prog F 479 Mx.eZ.m=true:=by kernel_rfl
theorem ok492:Mx.aK Tryz.prog F 492 Mx.aq.m=true:=by kernel_rfl
theorem ok490:Mx.aK Tryz.prog F 490 Mx.aO.m=true:=by kernel_rfl
theorem ok480:Mx.aK Tryz.prog F 480 Mx.a8.m=true:=by kernel_rfl
theorem ok481:Mx.aK Tryz.prog F 481 Mx.eY.m=true:=by kernel_rfl
theorem ok482:Mx.aK Tryz.prog F 482 Mx.bd.m=true:=by kernel_rfl
theorem ok483:Mx.aK Tryz.prog F 483 Mx.eX.m=true:=by kernel_rfl
theorem ok128:Mx.aK Tryz.prog F 128 Mx.db.m=true:=by kernel_rfl
theorem ok484:Mx.aK Tryz.prog F 484 Mx.cG.m=true:=by kernel_rfl
theorem ok467:Mx.aK Tryz.prog F 467 Mx.bq.m=true:=by kernel_rfl
theorem ok447:Mx.aK Tryz.prog F 447 Mx.bC.m=true:=by kernel_rfl
theorem ok433:Mx.aK Tryz.prog F 433 Mx.eU.m=true:=by kernel_rfl
theorem ok199:Mx.aK Tryz.prog F 199 Mx.iu.m=true:=by kernel_rfl
theorem ok95:Mx.aK Tryz.prog F 95 Mx.gf.m=true:=by kernel_rfl
theorem ok270:Mx.aK Tryz.prog F 270 Mx.ev.m=true:=by kernel_rfl
theorem ok220:Mx.aK Tryz.prog F 220 Mx.b4.m=true:=by kernel_rfl
theorem ok442:Mx.aK Tryz.prog F 442 Mx.ba.m=true:=by kernel_rfl
theorem ok163:Mx.aK Tryz.prog F 163 Mx.iR.m=true:=by kernel_rfl
theorem ok412:Mx.aK Tryz.prog F 412 Mx.fy.m=true:=by kernel_rfl
theorem ok230:Mx.aK Tryz.prog F 230 Mx.eQ.m=true:=by kernel_rfl
theorem ok231:Mx.aK Tryz.prog F 231 Mx.cn.m=true:=by kernel_rfl
theorem ok152:Mx.aK Tryz.prog F 152 Mx.b8.m=true:=by kernel_rfl
theorem ok249:Mx.aK Tryz.prog F 249 Mx.cJ.m=true:=by kernel_rfl
theorem ok203:Mx.aK Tryz.prog F 203 Mx.jk.m=true:=by kernel_rfl
theorem ok236:Mx.aK Tryz.prog F 236 Mx.gD.m=true:=by kernel_rfl
theorem ok168:Mx.aK Tryz.prog F 168 Mx.fC.m=true:=by kernel_rfl
theorem ok169:Mx.aK Tryz.prog F 169 Mx.dK.m=true:=by kernel_rfl
theorem ok207:Mx.aK Tryz.prog F 207 Mx.dN.m=true:=by kernel_rfl
theorem ok153:Mx.aK Tryz.prog F 153 Mx.fb.m=true:=by kernel_rfl
theorem ok170:Mx.aK Tryz.prog F 170 Mx.dm.m=true:=by kernel_rfl
theorem ok222:Mx.aK Tryz.prog F 222 Mx.fa.m=true:=by kernel_rfl
theorem ok223:Mx.aK Tryz.prog F 223 Mx.dL.m=true:=by kernel_rfl
theorem ok143:Mx.aK Tryz.prog F 143 Mx.dn.m=true:=by kernel_rfl
theorem ok76:Mx.aK Tryz.prog F 76 Mx.bF.m=true:=by kernel_rfl
theorem ok148:Mx.aK Tryz.prog F 148 Mx.fw.m=true:=by kernel_rfl
theorem ok59:Mx.aK Tryz.prog F 59 Mx.aP.m=true:=by kernel_rfl
theorem ok413:Mx.aK Tryz.prog F 413 Mx.fm.m=true:=by kernel_rfl
theorem ok431:Mx.aK Tryz.prog F 431 Mx.dO.m=true:=by kernel_rfl
theorem ok441:Mx.aK Tryz.prog F 441 Mx.fM.m=true:=by kernel_rfl
theorem ok409:Mx.aK Tryz.prog F 409 Mx.cV.m=true:=by kernel_rfl
theorem ok411:Mx.aK Tryz.prog F 411 Mx.dM.m=true:=by kernel_rfl
theorem ok157:Mx.aK Tryz.prog F 157 Mx.fN.m=true:=by kernel_rfl
theorem ok70:Mx.aK Tryz.prog F 70 Mx.dV.m=true:=by kernel_rfl
theorem ok410:Mx.aK Tryz.prog F 410 Mx.eR.m=true:=by kernel_rfl
theorem ok240:Mx.aK Tryz.prog F 240 Mx.iG.m=true:=by kernel_rfl
theorem ok182:Mx.aK Tryz.prog F 182 Mx.cL.m=true:=by kernel_rfl
theorem ok83:Mx.aK Tryz.prog F 83 Mx.dD.m=true:=by kernel_rfl
theorem ok428:Mx.aK Tryz.prog F 428 Mx.eK.m=true:=by kernel_rfl
theorem ok162:Mx.aK Tryz.prog F 162 Mx.a7.m=true:=by kernel_rfl
theorem ok73:Mx.aK Tryz.prog F 73 Mx.fx.m=true:=by kernel_rfl
theorem ok429:Mx.aK Tryz.prog F 429 Mx.eM.m=true:=by kernel_rfl
theorem ok469:Mx.aK Tryz.prog F 469 Mx.cw.m=true:=by kernel_rfl
theorem ok451:Mx.aK Tryz.prog F 451 Mx.gN.m=true:=by kernel_rfl
theorem ok501:Mx.aK Tryz.prog F 501 Mx.bY.m=true:=by kernel_rfl
set_option maxHeartbeats 4000000 in
set_option maxRecDepth 100000 in
theorem table:Mx.qV Tryz.prog F M:=by
 refine Mx.Ax ?_ ?_
 ·simp only[tab,List.forall_mem_cons];exact⟨ok36,ok234,ok156,ok101,ok147,ok165,ok89,ok164,ok272,ok235,ok166,ok161,ok160,ok72,ok74,ok200,ok271,ok228,ok229,ok150,ok159,ok116,ok31,ok421,ok124,ok131,ok125,ok113,ok132,ok133,ok43,ok474,ok241,ok238,ok180,ok277,ok91,ok459,ok460,ok488,ok472,ok461,ok22,ok462,ok439,ok405,ok247,ok197,ok475,ok466,ok446,ok98,ok186,ok90,ok183,ok276,ok242,ok187,ok88,ok226,ok227,ok149,ok432,ok219,ok196,ok283,ok99,ok221,ok139,ok202,ok248,ok201,ok167,ok206,ok140,ok142,ok141,ok52,ok122,ok34,ok100,ok60,ok75,ok146,ok58,ok300,ok301,ok278,ok282,ok181,ok81,ok302,ok279,ok243,ok184,ok84,ok280,ok86,ok281,ok468,ok175,ok185,ok174,ok244,ok519,ok516,ok508,ok134,ok44,ok477,ok476,ok239,ok233,ok155,ok275,ok485,ok470,ok452,ok20,ok453,ok454,ok486,ok471,ok455,ok457,ok456,ok23,ok458,ok437,ok401,ok478,ok479,ok492,ok490,ok480,ok481,ok482,ok483,ok128,ok484,ok467,ok447,ok433,ok199,ok95,ok270,ok220,ok442,ok163,ok412,ok230,ok231,ok152,ok249,ok203,ok236,ok168,ok169,ok207,ok153,ok170,ok222,ok223,ok143,ok76,ok148,ok59,ok413,ok431,ok441,ok409,ok411,ok157,ok70,ok410,ok240,ok182,ok83,ok428,ok162,ok73,ok429,ok469,ok451,ok501,by simp⟩
 ·simp only[exts,List.forall_mem_cons];exact⟨ext135,ext136,ext440,by simp⟩
theorem k36:Mx.ky.k M:=rfl
theorem k234:Mx.bN.k M:=rfl
theorem k156:Mx.aH.k M:=⟨rfl,k234⟩
theorem k101:Mx.b_.k M:=rfl
theorem k147:Mx.fT.k M:=⟨rfl,k101⟩
theorem k165:Mx.da.k M:=⟨rfl,k147⟩
theorem k89:Mx.dP.k M:=⟨rfl,k101⟩
theorem k164:Mx.fX.k M:=⟨rfl,k101⟩
theorem k272:Mx.iF.k M:=⟨rfl,k101,k164⟩
theorem k235:Mx.dw.k M:=⟨rfl,k272⟩
theorem k166:Mx.fk.k M:=⟨rfl,k147,k235⟩
theorem k161:Mx.aA.k M:=rfl
theorem k160:Mx.f_.k M:=rfl
theorem k72:Mx.cE.k M:=⟨rfl,k160,k161⟩
theorem k74:Mx.bG.k M:=⟨rfl,k72,k89,k101,k147,k156,k164,k165,k166⟩
theorem k200:Mx.ay.k M:=rfl
theorem k271:Mx.fc.k M:=rfl
theorem k228:Mx.dE.k M:=⟨rfl,k200,k271⟩
theorem k229:Mx.cN.k M:=rfl
theorem k150:Mx.aJ.k M:=⟨rfl,k74,k101,k156,k165,k228,k229⟩
theorem k159:Mx.ch.k M:=rfl
theorem k116:Mx.bK.k M:=⟨rfl,k159⟩
theorem k31:Mx.cU.k M:=⟨rfl,k116⟩
theorem k421:Mx.fI.k M:=⟨rfl,k31⟩
theorem k124:Mx.fK.k M:=rfl
theorem k131:Mx.fu.k M:=rfl
theorem k125:Mx.bD.k M:=⟨rfl,k131⟩
theorem k113:Mx.fe.k M:=rfl
theorem k132:Mx.bf.k M:=rfl
theorem k133:Mx.bX.k M:=rfl
theorem k43:Mx.aU.k M:=⟨rfl,k132,k133⟩
theorem k474:Mx.fH.k M:=rfl
theorem k241:Mx.gF.k M:=rfl
theorem k238:Mx.fq.k M:=⟨rfl,k241⟩
theorem k180:Mx.b6.k M:=⟨rfl,k238⟩
theorem k277:Mx.gL.k M:=rfl
theorem k91:Mx.bM.k M:=rfl
theorem k459:Mx.gE.k M:=rfl
theorem k460:Mx.cY.k M:=⟨rfl,k132,k133⟩
theorem k488:Mx.fW.k M:=⟨rfl,k277⟩
theorem k472:Mx.dJ.k M:=⟨rfl,k488⟩
theorem k461:Mx.ff.k M:=⟨rfl,k238,k472⟩
theorem k22:Mx.dA.k M:=⟨rfl,k91⟩
theorem k462:Mx.cQ.k M:=rfl
theorem k439:Mx.cS.k M:=⟨rfl,k22,k91,k132,k238,k459,k460,k461,k462⟩
theorem k405:Mx.ep.k M:=⟨rfl,k43,k180,k277,k439⟩
theorem k247:Mx.gi.k M:=rfl
theorem k197:Mx.cT.k M:=⟨rfl,k247⟩
theorem k475:Mx.cv.k M:=⟨rfl,k197⟩
theorem k466:Mx.aY.k M:=⟨rfl,k132,k133,k180,k405,k474,k475⟩
theorem k446:Mx.bI.k M:=⟨rfl,k43,k132,k466⟩
theorem k98:Mx.bS.k M:=rfl
theorem k186:Mx.cu.k M:=⟨rfl,k98⟩
theorem k90:Mx.dH.k M:=⟨rfl,k98⟩
theorem k183:Mx.fV.k M:=⟨rfl,k98⟩
theorem k276:Mx.iD.k M:=⟨rfl,k98,k183⟩
theorem k242:Mx.du.k M:=⟨rfl,k276⟩
theorem k187:Mx.dI.k M:=⟨rfl,k98,k242⟩
theorem k88:Mx.bB.k M:=⟨rfl,k90,k91,k98,k132,k183,k186,k187⟩
theorem k226:Mx.cz.k M:=rfl
theorem k227:Mx.bU.k M:=rfl
theorem k149:Mx.aI.k M:=⟨rfl,k88,k98,k132,k186,k226,k227⟩
theorem k432:Mx.eS.k M:=⟨rfl,k149,k446⟩
theorem k219:Mx.cj.k M:=⟨rfl,k180⟩
theorem k196:Mx.dj.k M:=rfl
theorem k283:Mx.dv.k M:=⟨rfl,k133,k149,k196,k219⟩
theorem k99:Mx.bL.k M:=rfl
theorem k221:Mx.cm.k M:=⟨rfl,k98,k99⟩
theorem k139:Mx.cD.k M:=⟨rfl,k221⟩
theorem k202:Mx.gG.k M:=rfl
theorem k248:Mx.cI.k M:=rfl
theorem k201:Mx.iQ.k M:=⟨rfl,k248⟩
theorem k167:Mx.eI.k M:=⟨rfl,k201,k202⟩
theorem k206:Mx.dF.k M:=⟨rfl,k221⟩
theorem k140:Mx.fY.k M:=⟨rfl,k206⟩
theorem k142:Mx.dR.k M:=⟨rfl,k139⟩
theorem k141:Mx.df.k M:=⟨rfl,k139,k140,k187⟩
theorem k52:Mx.bO.k M:=⟨rfl,k88,k139,k140,k141,k142⟩
theorem k122:Mx.ec.k M:=⟨rfl,k99,k187⟩
theorem k34:Mx.c_.k M:=⟨rfl,k88,k99,k122⟩
theorem k100:Mx.ig.k M:=⟨rfl,k201,k202⟩
theorem k60:Mx.b9.k M:=⟨rfl,k34,k99,k100,k149⟩
theorem k75:Mx.bh.k M:=⟨rfl,k52,k60,k139,k142,k167⟩
theorem k146:Mx.eO.k M:=⟨rfl,k75,k90⟩
theorem k58:Mx.aX.k M:=⟨rfl,k98,k146⟩
theorem k300:Mx.ei.k M:=⟨rfl,k91,k132,k196⟩
theorem k301:Mx.dG.k M:=rfl
theorem k278:Mx.bT.k M:=⟨rfl,k149,k180,k219,k226,k300,k301⟩
theorem k282:Mx.cF.k M:=⟨rfl,k149,k196,k219,k226,k301⟩
theorem k181:Mx.fL.k M:=rfl
theorem k81:Mx.dU.k M:=⟨rfl,k88,k91,k98,k132,k180,k181⟩
theorem k302:Mx.dX.k M:=⟨rfl,k149,k219⟩
theorem k279:Mx.dq.k M:=⟨rfl,k81,k149,k196,k219,k300,k301,k302⟩
theorem k243:Mx.iE.k M:=⟨rfl,k276,k277⟩
theorem k184:Mx.cK.k M:=⟨rfl,k98,k241,k242,k243⟩
theorem k84:Mx.dB.k M:=⟨rfl,k88,k91,k98,k180,k183,k184⟩
theorem k280:Mx.dg.k M:=⟨rfl,k84,k149,k196,k219,k301,k302⟩
theorem k86:Mx.cZ.k M:=⟨rfl,k88,k91,k133,k180⟩
theorem k281:Mx.dh.k M:=⟨rfl,k86,k149,k196,k219⟩
theorem k468:Mx.cM.k M:=⟨rfl,k58,k75,k219,k278,k279,k280,k281,k282,k283,k432,k446⟩
theorem k175:Mx.gU.k M:=⟨rfl,k125⟩
theorem k185:Mx.dS.k M:=⟨rfl,k125⟩
theorem k174:Mx.fU.k M:=⟨rfl,k185⟩
theorem k244:Mx.a_.k M:=⟨rfl,k125,k174,k175,k185,k278,k279,k280,k281,k282,k283⟩
theorem k519:Mx.bu.k M:=⟨rfl,k60,k113,k125,k174,k185,k244⟩
theorem k516:Mx.de.k M:=⟨rfl,k113,k125,k468,k519⟩
theorem k508:Mx.gk.k M:=⟨rfl,k113,k124,k125,k516⟩
theorem k134:Mx.eJ.k M:=rfl
theorem k44:Mx.fh.k M:=⟨rfl,k134,rfl,rfl⟩
theorem k477:Mx.eC.k M:=rfl
theorem k476:Mx.eD.k M:=⟨rfl,k200,k477⟩
theorem k239:Mx.fZ.k M:=rfl
theorem k233:Mx.ee.k M:=⟨rfl,k239⟩
theorem k155:Mx.cq.k M:=⟨rfl,k134,k233⟩
theorem k275:Mx.fJ.k M:=rfl
theorem k485:Mx.gI.k M:=⟨rfl,k275⟩
theorem k470:Mx.dQ.k M:=⟨rfl,k485⟩
theorem k452:Mx.fg.k M:=⟨rfl,k233,k470⟩
theorem k20:Mx.iH.k M:=⟨rfl,k72⟩
theorem k453:Mx.aC.k M:=⟨rfl,k161⟩
theorem k454:Mx.gA.k M:=⟨rfl,k156⟩
theorem k486:Mx.ao.k M:=rfl
theorem k471:Mx.aL.k M:=⟨rfl,k486⟩
theorem k455:Mx.aV.k M:=⟨rfl,k471⟩
theorem k457:Mx.eP.k M:=rfl
theorem k456:Mx.gz.k M:=⟨rfl,k457⟩
theorem k23:Mx.dC.k M:=⟨rfl,k72⟩
theorem k458:Mx.gw.k M:=⟨rfl,k457⟩
theorem k437:Mx.bW.k M:=⟨rfl,k20,k23,k44,k72,k233,k452,k453,k454,k455,k456,k458⟩
theorem k401:Mx.gn.k M:=⟨rfl,k44,k155,k275,k437⟩
theorem k478:Mx.aD.k M:=⟨rfl,k200⟩
theorem k479:Mx.eZ.k M:=⟨rfl,k156⟩
theorem k492:Mx.aq.k M:=rfl
theorem k490:Mx.aO.k M:=⟨rfl,k492⟩
theorem k480:Mx.a8.k M:=⟨rfl,k490⟩
theorem k481:Mx.eY.k M:=⟨rfl,k457⟩
theorem k482:Mx.bd.k M:=⟨rfl,k200⟩
theorem k483:Mx.eX.k M:=rfl
theorem k128:Mx.db.k M:=rfl
theorem k484:Mx.cG.k M:=⟨rfl,k128⟩
theorem k467:Mx.bq.k M:=⟨rfl,k155,k401,k476,k478,k479,k480,k481,k482,k483,k484⟩
theorem k447:Mx.bC.k M:=⟨rfl,k44,k156,k467⟩
theorem k433:Mx.eU.k M:=⟨rfl,k150,k447⟩
theorem k199:Mx.iu.k M:=rfl
theorem k95:Mx.gf.k M:=⟨rfl,k199,k200⟩
theorem k270:Mx.ev.k M:=⟨rfl,k155⟩
theorem k220:Mx.b4.k M:=⟨rfl,k134,k270⟩
theorem k442:Mx.ba.k M:=rfl
theorem k163:Mx.iR.k M:=⟨rfl,k134,rfl,rfl⟩
theorem k412:Mx.fy.k M:=⟨rfl,k95,k150,k163,k220,k442⟩
theorem k230:Mx.eQ.k M:=⟨rfl,k101⟩
theorem k231:Mx.cn.k M:=⟨rfl,k101,k230⟩
theorem k152:Mx.b8.k M:=⟨rfl,k231⟩
theorem k249:Mx.cJ.k M:=rfl
theorem k203:Mx.jk.k M:=⟨rfl,k249⟩
theorem k236:Mx.gD.k M:=rfl
theorem k168:Mx.fC.k M:=⟨rfl,k101,k203,k236⟩
theorem k169:Mx.dK.k M:=⟨rfl,k152⟩
theorem k207:Mx.dN.k M:=⟨rfl,k231⟩
theorem k153:Mx.fb.k M:=⟨rfl,k207⟩
theorem k170:Mx.dm.k M:=⟨rfl,k152,k169⟩
theorem k222:Mx.fa.k M:=⟨rfl,k152⟩
theorem k223:Mx.dL.k M:=⟨rfl,k152,k153,k222⟩
theorem k143:Mx.dn.k M:=⟨rfl,k152,k153,k169,k170,k222,k223⟩
theorem k76:Mx.bF.k M:=⟨rfl,k143,k150,k152,k168,k169,k170⟩
theorem k148:Mx.fw.k M:=⟨rfl,k101⟩
theorem k59:Mx.aP.k M:=⟨rfl,k76,k89,k147,k148⟩
theorem k413:Mx.fm.k M:=⟨rfl,k72,k156⟩
theorem k431:Mx.dO.k M:=rfl
theorem k441:Mx.fM.k M:=⟨rfl,k150,k220⟩
theorem k409:Mx.cV.k M:=⟨rfl,k150,k220,k228,k413,k431,rfl,k441⟩
theorem k411:Mx.dM.k M:=⟨rfl,k95,k150,k220,k228,k431,k441⟩
theorem k157:Mx.fN.k M:=rfl
theorem k70:Mx.dV.k M:=⟨rfl,k72,k74,k148,k155,k156,k157⟩
theorem k410:Mx.eR.k M:=⟨rfl,k70,k95,k150,k220,k413,k431,k441⟩
theorem k240:Mx.iG.k M:=⟨rfl,k272,k275⟩
theorem k182:Mx.cL.k M:=⟨rfl,k148,k235,k239,k240⟩
theorem k83:Mx.dD.k M:=⟨rfl,k72,k74,k148,k155,k164,k182⟩
theorem k428:Mx.eK.k M:=⟨rfl,k83,k95,k150,k220,k431,k441⟩
theorem k162:Mx.a7.k M:=rfl
theorem k73:Mx.fx.k M:=⟨rfl,k72,k74,k155,k162,k163⟩
theorem k429:Mx.eM.k M:=⟨rfl,k73,k95,k150,k220⟩
theorem k469:Mx.cw.k M:=⟨rfl,k59,k76,k220,k409,k410,k411,k412,k428,k429,k433,k447⟩
theorem k451:Mx.gN.k M:=⟨rfl,k220,k469⟩
theorem k501:Mx.bY.k M:=⟨rfl,k36,k150,k421,k451,k469,k508⟩
end Go.Proofs.YtcihgbflbmhkbaaGreat.fnCallsAll
