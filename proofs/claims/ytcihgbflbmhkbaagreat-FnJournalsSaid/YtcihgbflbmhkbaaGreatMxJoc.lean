/-
  What more of the functions compute, each by a small evaluation; no condition beyond what each says.
-/
import Derived.Sort.Row
import Derived.Sort.Grow
import Derived.Lib.SlicesCompact
import Derived.Laws.IdiomCopy
import Derived.Laws.Append
import Derived.Test.YtcihgbflbmhkbaaGreatMxJob
set_option maxHeartbeats 16000000
set_option linter.unusedSimpArgs false
set_option linter.unusedVariables false
namespace Mx
open Go
variable {P:Program} {F:Nat→FuncId}
def p8(rows:List (List T)):Option (List Int):=iK (fun (r:List T)=>match r with
 |[.int .i64 n]=>some n
 |_=>none) rows
theorem vH:∀{rows:List (List T)} {zs:List Int},p8 rows=some zs→rows=az zs
 |[],zs,h=>by simp[p8,iK] at h;subst h;rfl
 |r::rows,zs,h=>by
  simp only[p8,iK] at h;split at h
  ·rename_i y ys h1 h2;cases h;have:=vH (rows:=rows) (zs:=ys) h2;rw[this];split at h1
   ·cases h1;rfl
   ·cases h1
  ·cases h
theorem sX(zs:List Int):p8 (az zs)=some zs:=by
 induction zs with
 |nil=>rfl
 |cons z zs ih=>unfold p8 az at ih ⊢;simp only[bq,iK,ih]
def qh(as:List V)(lent:List (Nat×Ob)):Option (List Int):=match as,lent with
 |[.c (.row 0 0 0 len)],[(0,ob)]=>match p8 ob.rows with
  |some zs=>if ob.cG=0∧ob.sz=1∧ob.w=true∧ob.bx=false∧zs.length=len∧len≤4294967296 then some zs else none
  |none=>none
 |_,_=>none
def lT(zs:List Int):List Int:=zs.mergeSort fun x y=>decide (x≤y)
def vE(as:List V)(lent:List (Nat×Ob)):Option (V×List (Nat×Ob)):=(qh as lent).map fun zs=>(.lN [],[(0,⟨0,1,true,false,az (lT zs)⟩)])
def oT(as:List V)(lent:List (Nat×Ob)):Option (V×List (Nat×Ob)):=(qh as lent).map fun zs=>
 (.c (.row 0 0 0 (Lib.compact zs).length),[(0,⟨0,1,true,false,az (Lib.compact zs++List.replicate (zs.length-(Lib.compact zs).length) 0)⟩)])
theorem vQ{as:List V}{lent:List (Nat×Ob)}{zs:List Int}(h:qh as lent=some zs):as=[.c (.row 0 0 0 zs.length)]∧lent=[(0,⟨0,1,true,false,az zs⟩)]∧zs.length≤4294967296:=by
 unfold qh at h;split at h
 ·rename_i len ob;split at h
  ·rename_i zs' hz;split at h
   ·rename_i hc;cases h;obtain⟨h1,h2,h3,h4,h5,h6⟩:=hc;subst h5;refine⟨rfl, ?_,h6⟩;have:=vH hz;obtain⟨cG,sz,w,bx,rows⟩:=ob;simp only at h1 h2 h3 h4 this;subst h1 h2 h3 h4 this;rfl
   ·cases h
  ·cases h
 ·cases h
inductive HQ (F:Nat→FuncId) (Pr:Nat→Prop) (E0:Nat→Option Loc) (zs:List Int) (vals:Array Value) (w:World):Prop where
 |none (hz:zs=[]) (hv:vals= #[.slice none 0 0]) (hE:E0 0=some .nil):HQ F Pr E0 zs vals w
 |kS (b cap:Nat) (cs:Array Value) (e:TypeId) (fr:Nat×Nat) (hE:E0 0=some (.kS b cap 1)) (hv:vals= #[.slice (some ⟨b,0,none⟩) zs.length cap]) (hh:w.heap[b]? =some (.cells cs e fr)) (hs:cs.size=cap)
   (hf:∀o,o≤cs.size→¬(fr.1≤o∧o<fr.2)) (hl:zs.length≤cap) (hc:∀(i:Nat) (z:Int),zs[i]? =some z→cs[i]? =some (.int .i64 z)):HQ F Pr E0 zs vals w
theorem u7{zs:List Int}{i j:Nat}{r:List T}{t:T}(hi:(az zs)[i]? =some r)(hj:r[j]? =some t):j=0∧∃z,zs[i]? =some z∧t= .int .i64 z:=by
 simp only[az,ja,ao] at hi;obtain⟨z,hz,rfl⟩:=hi;cases j with
 |zero=>simp at hj;exact⟨rfl,z,hz,hj.symm⟩
 |succ j=>simp at hj
theorem rowAt{Pr:Nat→Prop}{E0:Nat→Option Loc}{zs:List Int}{vals:Array Value}{w:World}
  (En:Entry F Pr E0 [.c (.row 0 0 0 zs.length)] [(0,⟨0,1,true,false,az zs⟩)] vals w):HQ F Pr E0 zs vals w:=by
 obtain⟨len,hq⟩:∃len,len=zs.length:=⟨_,rfl⟩
 rw[←hq] at En;have hn:vals.size=1:=En.n.symm;obtain⟨x,hx⟩:∃x,vals= #[x]:=by
  obtain⟨l⟩:=vals
  match l,hn with
  |[x],_=>exact⟨x,rfl⟩
 subst hx;have ha:=En.args 0 _ x rfl rfl;obtain⟨_,_,_,l,hl,hr⟩:=En.oo 0 _ (by simp[get];rfl);cases ha with
 |c _ _ ha=>
  cases ha with
  |row _ _ _ _ cap sz b hE hlen ho=>
   have hE':E0 0=some (.kS b cap sz):=hE;rw[hE'] at hl;cases hl;subst hq;obtain⟨e1,hob⟩:=hr;simp only at e1;subst e1;obtain⟨h1,h2,h3,cs,e,fr,m1,m2,m3,m4⟩:=hob;simp only at m2 m4;refine .kS b cap cs e fr hE (by simp[ie,Addr.add]) m1 (by omega) m3 (by omega) ?_;intro i z hz;have hi:(az zs)[i]? =some [.int .i64 z]:=by simp[az,hz]
   obtain⟨v,hv,hrep⟩:=m4 i 0 _ _ hi rfl;cases hrep;simpa using hv
  |ox _ _ hE=>
   exact .none (aZ hq.symm) rfl hE
theorem DB{Pr:Nat→Prop}{E0:Nat→Option Loc}{zs zs':List Int}{w w':World}{b cap:Nat}{cs cs':Array Value}{e:TypeId}{fr:Nat×Nat}{res:V}{val:Value}
  (hE:E0 0=some (.kS b cap 1)) (hh:w.heap[b]? =some (.cells cs e fr)) (hs:cs.size=cap) (hf:∀o,o≤cs.size→¬(fr.1≤o∧o<fr.2)) (hl:zs.length≤cap)
  (hz:zs'.length=zs.length) (h1:w'.os=w.os) (h2:w'.tape=w.tape) (h3:w'.output=w.output) (hsz:w.heap.size≤w'.heap.size) (hh':w'.heap[b]? =some (.cells cs' e fr)) (hs':cs'.size=cs.size)
  (hfr:∀b',b'<w.heap.size→b'≠b→w'.heap[b']? =w.heap[b']?) (hc:∀(i:Nat) (z:Int),zs'[i]? =some z→cs'[i]? =some (.int .i64 z))
  (hres:yW (rx F Pr E0 [(0,⟨0,1,true,false,az zs⟩)] E0 (fun _=>none) w') (fun _=>none) [(0,⟨0,1,true,false,az zs⟩)] res val):
  Dl F Pr E0 [(0,⟨0,1,true,false,az zs⟩)] w E0 (fun _=>none) res [(0,⟨0,1,true,false,az zs'⟩)] val w':=by
 refine⟨h1,h2,h3,hsz, ?_,fun v l h=>h,fun q b cap sz h=>(by cases h),fun q q' b cap sz cap' sz' h=>(by cases h),hres, ?_⟩
 ·intro b' hb' hn;refine hfr b' hb' fun q=>hn ⟨0,_,cap,1,by simp[get];rfl, ?_⟩
  rw[q];exact hE
 ·intro p ob ob' l hp hp' hEl;simp only[get] at hp hp';split at hp
  ·rename_i hp0;subst hp0;simp only[if_true] at hp';cases hp;cases hp';rw[hE] at hEl;cases hEl;refine⟨⟨rfl, ?_⟩, ?_⟩
   ·refine⟨by simp[az];omega, ?_, ?_,cs',e,fr,hh',by simp only;omega,fun o ho=>hf o (by omega), ?_⟩
    ·intro i r hi;simp only[az,ja,ao] at hi;obtain⟨z,_,rfl⟩:=hi;rfl
    ·intro _ i j r t hi hj;obtain⟨_,z,_,rfl⟩:=u7 hi hj;exact .int _ _
    ·intro i j r t hi hj;obtain⟨rfl,z,hz,rfl⟩:=u7 hi hj;refine⟨.int .i64 z, ?_,.int _ _⟩;simp only[Nat.mul_one,Nat.add_zero];exact hc i z hz
   ·intro i j r t hi hj;obtain⟨_,z,_,rfl⟩:=u7 hi hj;exact .int _ _
  ·simp at hp
theorem A8{zs:List Int}{w:World}{b:Nat}{cs:Array Value}{e:TypeId}{fr:Nat×Nat}{cap:Nat}(hh:w.heap[b]? =some (.cells cs e fr))(hs:cs.size=cap)(hl:zs.length≤cap)
  (hf:∀o,o≤cs.size→¬(fr.1≤o∧o<fr.2)) (hc:∀(i:Nat) (z:Int),zs[i]? =some z→cs[i]? =some (.int .i64 z)):Sort.Holds (Value.int .i64) w b 0 zs.toArray:=by
 intro j hj;have hj':j<zs.length:=by simpa using hj
 refine⟨?_, ?_⟩
 ·have:=hc j zs[j] (cj hj');simp only[World.cell?,hh,Option.isSome_none,au,if_false,Nat.zero_add];rw[this];simp[getElem!_pos,hj']
 ·simp only[World.frozen?,hh,Nat.zero_add];have:=hf j (by omega);obtain⟨lo,hi⟩:=fr;simp only at this;simp only[Bool.and_eq_false_iff,decide_eq_false_iff_not];omega
theorem s6(off:Nat)(d:Array Int)(c:Array Value):(Sort.putCells (Value.int .i64) off d c).size=c.size:=by simp[Sort.putCells]
theorem vN{zs:List Int}{c:Array Value}{i:Nat}{z:Int}(h:zs[i]? =some z)(hc:i<c.size):(Sort.putCells (Value.int .i64) 0 zs.toArray c)[i]? =some (.int .i64 z):=by
 have hi:i<zs.length:=by
  rcases Nat.lt_or_ge i zs.length with q|q
  ·exact q
  ·rw[jD q] at h;cases h
 have hz:zs[i]! =z:=by rw[getElem!_pos zs i hi];rw[cj hi] at h;exact Option.some.inj h
 simp only[Sort.putCells,Array.getElem?_mapIdx,Array.getElem?_eq_getElem hc,iV];rw[if_pos ⟨Nat.zero_le _,by simpa using hi⟩];simp[hz]
theorem vM(w:World)(b:Nat)(d:Array Int){cs:Array Value}{e:TypeId}{fr:Nat×Nat}(hh:w.heap[b]? =some (.cells cs e fr)):
  (Sort.putRow (Value.int .i64) w b 0 d).heap[b]? =some (.cells (Sort.putCells (Value.int .i64) 0 d cs) e fr)∧∀b',b'≠b→(Sort.putRow (Value.int .i64) w b 0 d).heap[b']? =w.heap[b']? :=by
 simp only[Sort.putRow,Sort.mapBlock,Array.getElem?_modify];refine⟨by simp[hh,Sort.onCells],fun b' hb=> ?_⟩;rw[if_neg (fun q=>hb q.symm)]
theorem zr(w:World)(os:Array Obj){b:Nat}(hb:b<w.heap.size):(Sort.grow w os).heap[b]? =w.heap[b]? :=by
 simp[Sort.grow,Array.getElem?_append,hb]
theorem G1{f:Nat}(hf:yP P F f=true)
  (hN:∀(p:Option Addr) (cap:Nat) (w:World),Calls P (F f) #[.slice p 0 cap] w fun e w'=>e= .returned (.tuple #[])∧w'=w)
  (hS:∀(kS off cap:Nat) (zs:List Int) (w:World),Sort.Holds (Value.int .i64) w kS off zs.toArray→kS<w.heap.size→zs.length<4611686018427387904→Calls P (F f) #[.slice (some ⟨kS,off,none⟩) zs.length cap] w fun e w'=>
   e= .returned (.tuple #[])∧∃n os,w'=Sort.grow (Sort.putRow (Value.int .i64) (Sort.ahead w n) kS off (zs.mergeSort fun x y=>decide (x≤y)).toArray) os):wv P F f vE:=by
 intro as lent res after hg;refine⟨hf,fun Pr E0 vals w En=> ?_⟩;unfold vE at hg;simp only[ao] at hg;obtain⟨zs,hz,hg⟩:=hg;cases hg;obtain⟨rfl,rfl,hlen⟩:=vQ hz;cases rowAt En with
 |none h1 h2 h3=>
  subst h1 h2;refine(hN none 0 w).mono ?_;rintro e w' ⟨rfl,rfl⟩;refine⟨.tuple #[],E0,fun _=>none,rfl,rfl,rfl,rfl,Nat.le_refl _,fun b _ _=>rfl,fun v l h=>h,fun q b cap sz h=>(by cases h),fun q q' b cap sz cap' sz' h=>(by cases h),by simp[yW,wq], ?_⟩;intro p ob ob' l hp hp' hE;simp only[get] at hp hp';split at hp
  ·rename_i hp0;subst hp0;simp only[if_true] at hp';cases hp;cases hp';rw[h3] at hE;cases hE;exact⟨⟨by simp[lT,az],rfl⟩,fun i j r t h=>by simp[lT,az] at h⟩
  ·simp at hp
 |kS b cap cs e fr hE hv hh hs hfz hl hc=>
  subst hv;have hb:b<w.heap.size:=by
   rcases Nat.lt_or_ge b w.heap.size with q|q
   ·exact q
   ·rw[Array.getElem?_eq_none q] at hh;cases hh
  refine(hS b 0 cap zs w (A8 hh hs hl hfz hc) hb (by omega)).mono ?_;rintro e' w' ⟨rfl,n,os,rfl⟩;refine⟨.tuple #[],E0,fun _=>none,rfl, ?_⟩;have hp:=vM (Sort.ahead w n) b (lT zs).toArray (by simpa using hh);have hsl:(lT zs).length=zs.length:=by simp[lT]
  have hgb:b<(Sort.putRow (Value.int .i64) (Sort.ahead w n) b 0 (lT zs).toArray).heap.size:=by simpa using hb
  refine DB (zs':=lT zs) (cs':=Sort.putCells (Value.int .i64) 0 (lT zs).toArray cs) hE hh hs hfz hl hsl rfl rfl rfl ?_ ((zr _ os hgb).trans hp.1) (s6 _ _ _) ?_ ?_ (by simp[yW,wq])
  ·simp[Sort.grow]
  ·intro b' hb' hne;rw[zr _ os (by simpa using hb')];exact hp.2 b' hne
  ·intro i z hi;refine vN hi ?_;have:i<(lT zs).length:=by
    rcases Nat.lt_or_ge i (lT zs).length with q|q
    ·exact q
    ·rw[jD q] at hi;cases hi
   omega
theorem By{f:Nat}(hf:yP P F f=true)
  (hN:∀(p:Option Addr) (cap:Nat) (w:World),Calls P (F f) #[.slice p 0 cap] w fun e w'=>e= .returned (.slice p 0 cap)∧w'=w)
  (hS:∀(kS off cap:Nat) (zs:List Int) (w:World),Sort.Holds (Value.int .i64) w kS off zs.toArray→zs.length≤9223372036854775807→zs.length≤cap→Calls P (F f) #[.slice (some ⟨kS,off,none⟩) zs.length cap] w fun e w'=>
   e= .returned (.slice (some ⟨kS,off,none⟩) (Lib.compact zs).length cap)∧∃q,w'=Sort.putRow (Value.int .i64) (Sort.ahead w q) kS off (Lib.compact zs++List.replicate (zs.length-(Lib.compact zs).length) 0).toArray)
  (hlen:∀zs:List Int,(Lib.compact zs).length≤zs.length):wv P F f oT:=by
 intro as lent res after hg;refine⟨hf,fun Pr E0 vals w En=> ?_⟩;unfold oT at hg;simp only[ao] at hg;obtain⟨zs,hz,hg⟩:=hg;cases hg;obtain⟨rfl,rfl,hlen'⟩:=vQ hz;cases rowAt En with
 |none h1 h2 h3=>
  subst h1 h2;have hc:Lib.compact ([]:List Int)=[]:=aZ (Nat.le_zero.1 (hlen []));refine(hN none 0 w).mono ?_;rintro e w' ⟨rfl,rfl⟩;refine⟨.slice none 0 0,E0,fun _=>none,rfl,rfl,rfl,rfl,Nat.le_refl _,fun b _ _=>rfl,fun v l h=>h,fun q b cap sz h=>(by cases h),fun q q' b cap sz cap' sz' h=>(by cases h), ?_, ?_⟩
  ·simp only[yW,wD,hc,dM];exact .row 0 0 0 0 _ fun ob hob=> .ox 0 0 h3
  intro p ob ob' l hp hp' hE;simp only[get] at hp hp';split at hp
  ·rename_i hp0;subst hp0;simp only[if_true] at hp';cases hp;cases hp';rw[h3] at hE;cases hE;exact⟨⟨by simp[hc,az],rfl⟩,fun i j r t h=>by simp[hc,az] at h⟩
  ·simp at hp
 |kS b cap cs e fr hE hv hh hs hfz hl hc=>
  subst hv;have hb:b<w.heap.size:=by
   rcases Nat.lt_or_ge b w.heap.size with q|q
   ·exact q
   ·rw[Array.getElem?_eq_none q] at hh;cases hh
  refine(hS b 0 cap zs w (A8 hh hs hl hfz hc) (by omega) hl).mono ?_;have hk:=hlen zs;generalize Lib.compact zs=ks at*;rintro e' w' ⟨rfl,n,rfl⟩;refine⟨.slice (some ⟨b,0,none⟩) ks.length cap,E0,fun _=>none,rfl, ?_⟩;obtain⟨zz,hzz⟩:∃zz,zz=ks++List.replicate (zs.length-ks.length) 0:=⟨_,rfl⟩
  have hsl:zz.length=zs.length:=by rw[hzz];simp;omega
  rw[←hzz];have hp:=vM (Sort.ahead w n) b zz.toArray (by simpa using hh);refine DB (zs':=zz) (cs':=Sort.putCells (Value.int .i64) 0 zz.toArray cs) hE hh hs hfz hl hsl rfl rfl rfl (by simp) hp.1 (s6 _ _ _) ?_ ?_ ?_
  ·intro b' hb' hne;exact hp.2 b' hne
  ·intro i z hi;refine vN hi ?_;have:i<zz.length:=by
    rcases Nat.lt_or_ge i zz.length with q|q
    ·exact q
    ·rw[jD q] at hi;cases hi
   omega
  ·simp only[yW,wD];refine .row 0 0 0 ks.length _ fun ob hob=> ?_
   have:=j7.row (X:=rx F Pr E0 [(0,⟨0,1,true,false,az zs⟩)] E0 (fun _=>none) (Sort.putRow (Value.int .i64) (Sort.ahead w n) b 0 zz.toArray)) 0 0 0 ks.length cap 1 b hE (by omega) (.inr rfl);simpa [ie,Addr.add] using this
def KH(tab:List (Nat×Fn))(ext:List (Nat×(List V→List (Nat×Ob)→Option (V×List (Nat×Ob)))))(f:Nat):Option Body:=match get tab f with
 |some b=>some (.code b)
 |none=>(get ext f).map fun g=> .ext g
theorem Cg{tab:List (Nat×Fn)}{ext:List (Nat×(List V→List (Nat×Ob)→Option (V×List (Nat×Ob))))}(h:∀p∈tab,aG P F p.1 p.2=true)(hx:∀p∈ext,wv P F p.1 p.2):sN P F (KH tab ext):=by
 intro f;unfold KH;cases hg:get tab f with
 |some b=>exact h _ (get_mem hg)
 |none=>
  cases hq:get ext f with
  |none=>simp
  |some g=>exact hx _ (get_mem hq)
end Mx
namespace Mx
open Go
def b9.l0:C:= .seq (.seq (.ak [Qm 9 6,Qm 10 0,Q 11 (.len (.t 10)),Q 12 (.bin .lss (.t 9) (.t 11))] [0,1,5,6,12] [8,27,31,50])
 (.cond (.t 12) (.skip) (.exit 0)))
 (.seq (.block 1 (.seq (.ak [Qm 15 0,Qm 16 6,Qa 17 1 15 16,Ql 18 17,Qm 19 1,Q 20 (.bin .lss (.t 18) (.t 19))] [0,1,5,6,20] [8,27,31,50])
 (.cond (.t 20) (.ak [Qm 21 5,Qm 22 0,Qm 23 6,Qa 24 1 22 23,Ql 25 24,Q 26 (.bM 1 1 [.int .i64 0] [(0,.t 25)]),Q 27 (.app 1 8 (.t 21) (.t 26)),Qm 5 27] [0,1,5,6] [8,27,31,50]) (.skip))))
 (.ak [Qm 13 6,Q 14 (.bin .add (.t 13) (kI 1)),Qm 6 14] [0,1,5,6] [8,27,31,50]))
def b9.l1:C:= .seq (.seq (.ak [Qm 32 7,Qm 33 0,Q 34 (.len (.t 33)),Q 35 (.bin .lss (.t 32) (.t 34))] [0,1,5,7,35] [8,27,31,50])
 (.cond (.t 35) (.skip) (.exit 2)))
 (.seq (.block 3 (.seq (.ak [Qm 38 0,Qm 39 7,Qa 40 1 38 39,Ql 41 40,Qm 42 1,Q 43 (.bin .gtr (.t 41) (.t 42))] [0,1,5,7,43] [8,27,31,50])
 (.cond (.t 43) (.ak [Qm 44 5,Qm 45 0,Qm 46 7,Qa 47 1 45 46,Ql 48 47,Q 49 (.bM 1 1 [.int .i64 0] [(0,.t 48)]),Q 50 (.app 1 8 (.t 44) (.t 49)),Qm 5 50] [0,1,5,7] [8,27,31,50]) (.skip))))
 (.ak [Qm 36 7,Q 37 (.bin .add (.t 36) (kI 1)),Qm 7 37] [0,1,5,7] [8,27,31,50]))
def b9.b:C:= .seq (.ak [Q 4 (.nil 1)] [0,1] [])
 (.seq (.ak [Q 8 (.bM 1 0 [.int .i64 0] []),Qm 5 8] [0,1,5] [8,27,31,50])
 (.seq (.seq (.ak [Qi 6 0] [0,1,5,6] [8,27,31,50])
 (.block 0 (.loop b9.l0)))
 (.seq (.ak [Qm 28 5,Qm 29 1,Q 30 (.bM 1 1 [.int .i64 0] [(0,.t 29)]),Q 31 (.app 1 8 (.t 28) (.t 30)),Qm 5 31] [0,1,5] [8,27,31,50])
 (.seq (.seq (.ak [Qi 7 0] [0,1,5,7] [8,27,31,50])
 (.block 2 (.loop b9.l1)))
 (.seq (.ak [Qm 51 5,Qm 4 51] [4] [4,8,27,31,50])
 (.ret))))))
def b9.m:Fn:={np:=2,body:=b9.b,res:=[.tmp 4]}
def b9.k(M:Nat→Option Body):Prop:=M 133=some (.code b9.m)
def aU.l0:C:= .seq (.seq (.ak [Qm 9 6,Qm 10 0,Q 11 (.len (.t 10)),Q 12 (.bin .lss (.t 9) (.t 11))] [0,1,5,6,12] [8,12700,14600])
 (.cond (.t 12) (.skip) (.exit 0)))
 (.seq (.block 1 (.seq (.ak [Qm 15 5,Qm 16 0,Qm 17 6,Qa 18 1 16 17,Ql 19 18,Q 20 (.call 132 [.t 15,.t 19] [] []),Q 21 (.not (.t 20))] [0,1,5,6,21] [8,12700,14600])
 (.cond (.t 21) (.ak [Qm 22 5,Qm 23 0,Qm 24 6,Qa 25 1 23 24,Ql 26 25,Q 27 (.call 133 [.t 22,.t 26] [] [(0,12700)]),Qm 5 27] [0,1,5,6] [8,12700,14600]) (.skip))))
 (.ak [Qm 13 6,Q 14 (.bin .add (.t 13) (kI 1)),Qm 6 14] [0,1,5,6] [8,12700,14600]))
def aU.l1:C:= .seq (.seq (.ak [Qm 28 7,Qm 29 1,Q 30 (.len (.t 29)),Q 31 (.bin .lss (.t 28) (.t 30))] [1,5,7,31] [8,12700,14600])
 (.cond (.t 31) (.skip) (.exit 2)))
 (.seq (.block 3 (.seq (.ak [Qm 34 5,Qm 35 1,Qm 36 7,Qa 37 1 35 36,Ql 38 37,Q 39 (.call 132 [.t 34,.t 38] [] []),Q 40 (.not (.t 39))] [1,5,7,40] [8,12700,14600])
 (.cond (.t 40) (.ak [Qm 41 5,Qm 42 1,Qm 43 7,Qa 44 1 42 43,Ql 45 44,Q 46 (.call 133 [.t 41,.t 45] [] [(0,14600)]),Qm 5 46] [1,5,7] [8,12700,14600]) (.skip))))
 (.ak [Qm 32 7,Q 33 (.bin .add (.t 32) (kI 1)),Qm 7 33] [1,5,7] [8,12700,14600]))
def aU.b:C:= .seq (.ak [Q 4 (.nil 1)] [0,1] [])
 (.seq (.ak [Q 8 (.bM 1 0 [.int .i64 0] []),Qm 5 8] [0,1,5] [8,12700,14600])
 (.seq (.seq (.ak [Qi 6 0] [0,1,5,6] [8,12700,14600])
 (.block 0 (.loop aU.l0)))
 (.seq (.seq (.ak [Qi 7 0] [1,5,7] [8,12700,14600])
 (.block 2 (.loop aU.l1)))
 (.seq (.ak [Qm 47 5,Qm 4 47] [4] [4,8,12700,14600])
 (.ret)))))
def aU.m:Fn:={np:=2,body:=aU.b,res:=[.tmp 4]}
def aU.k(M:Nat→Option Body):Prop:=M 43=some (.code aU.m)∧bj.k M∧b9.k M
def fM.b:C:= .seq (.ak [Q 4 (.nil 1)] [0,1] [])
 (.seq (.ak [Qm 6 0,Q 7 (.call 134 [.t 6] [] [(0,10700)]),Qm 8 1,Q 9 (.app 1 8 (.t 7) (.t 8)),Qm 5 9] [5] [9,10700])
 (.seq (.ak [Qm 10 5,Q 11 (.call 135 [.t 10] [0] [])] [5] [9,10700])
 (.seq (.ak [Qm 12 5,Q 13 (.call 136 [.t 12] [0] [(0,11300)]),Qm 4 13] [4] [4,9,10700,11300])
 (.ret))))
def fM.m:Fn:={np:=2,body:=fM.b,res:=[.tmp 4]}
def fM.k(M:Nat→Option Body):Prop:=M 44=some (.code fM.m)∧fc.k M∧M 135=some (.ext vE)∧M 136=some (.ext oT)
def fX.b:C:= .seq (.ak [Qb 2 false] [0] [])
 (.seq (.ak [Qm 3 0,Q 4 (.call 101 [.t 3,kI 0,kI 7] [] []),Qm 2 4] [2] [])
 (.ret))
def fX.m:Fn:={np:=1,body:=fX.b,res:=[.tmp 2]}
def fX.k(M:Nat→Option Body):Prop:=M 148=some (.code fX.m)∧bV.k M
def cq.l0:C:= .seq (.seq (.ak [Qm 34 5,Qf 35 2 2,Ql 36 35,Q 37 (.len (.t 36)),Q 38 (.bin .lss (.t 34) (.t 37))] [2,3,5,38] [2,3])
 (.cond (.t 38) (.skip) (.exit 0)))
 (.seq (.block 1 (.seq (.gw [Qf 41 2 2,Ql 42 41,Qm 43 5,Qa 44 3 42 43,QL 45 3 44,Qf 46 2 3,Ql 47 46,Qm 48 5,Qa 49 3 47 48,QL 50 3 49,Q 51 (.eqs true [.int,.int,.int] (.t 45) (.t 50))] [[],[0],[],[0,1,2],[0,1,2,3],[],[5],[],[5,6,7],[5,6,7,8],[0,1,2,3,4,5,6,7,8,9]] [2,3,5,51] [2,3])
 (.cond (.t 51) (.seq (.ak [Qb 4 false] [4] [])
 (.ret)) (.skip))))
 (.ak [Qm 39 5,Q 40 (.bin .add (.t 39) (kI 1)),Qm 5 40] [2,3,5] [2,3]))
def cq.b:C:= .seq (.ak [Qv 2 0,Qv 3 1,Qb 4 false] [2,3] [2,3])
 (.seq (.seq (.ak [Qf 6 0 2,Ql 7 6,Qf 8 0 3,Ql 9 8,Q 10 (.bin .neq (.t 7) (.t 9)),Qm 11 10,Qg 12 (.bC 1 (.t 2)) 11 false,Qg 13 (.load false 1 (.t 12)) 11 false,
   Qg 14 (.bC 1 (.t 3)) 11 false,Qg 15 (.load false 1 (.t 14)) 11 false,Qg 16 (.bin .neq (.t 13) (.t 15)) 11 false,Q 17 (.pick (.t 11) (kB true) (.t 16)),Qm 18 17,
   Qg 19 (.bC 3 (.t 2)) 18 false,Qg 20 (.load false 1 (.t 19)) 18 false,Qg 21 (.bC 3 (.t 3)) 18 false,Qg 22 (.load false 1 (.t 21)) 18 false,
   Qg 23 (.bin .neq (.t 20) (.t 22)) 18 false,Q 24 (.pick (.t 18) (kB true) (.t 23)),Qm 25 24,Qg 26 (.bC 2 (.t 2)) 25 false,Qg 27 (.load false 1 (.t 26)) 25 false,
   Qg 28 (.len (.t 27)) 25 false,Qg 29 (.bC 2 (.t 3)) 25 false,Qg 30 (.load false 1 (.t 29)) 25 false,Qg 31 (.len (.t 30)) 25 false,Qg 32 (.bin .neq (.t 28) (.t 31)) 25 false,
   Q 33 (.pick (.t 25) (kB true) (.t 32))] [2,3,33] [2,3])
 (.cond (.t 33) (.seq (.ak [Qb 4 false] [4] [])
 (.ret)) (.skip)))
 (.seq (.seq (.ak [Qi 5 0] [2,3,5] [2,3])
 (.block 0 (.loop cq.l0)))
 (.seq (.ak [Qb 4 true] [4] [])
 (.ret))))
def cq.m:Fn:={np:=2,body:=cq.b,res:=[.tmp 4]}
def cq.k(M:Nat→Option Body):Prop:=M 159=some (.code cq.m)
def bS.l0:C:= .seq (.seq (.ak [Qm 51 5,Qf 52 5 2,Ql 53 52,Q 54 (.len (.t 53)),Q 55 (.bin .lss (.t 51) (.t 54))] [2,3,5,55] [2,3])
 (.cond (.t 55) (.skip) (.exit 0)))
 (.seq (.block 1 (.seq (.gw [Qf 58 5 2,Ql 59 58,Qm 60 5,Qa 61 4 59 60,QL 62 4 61,Qf 63 5 3,Ql 64 63,Qm 65 5,Qa 66 4 64 65,QL 67 4 66,Q 68 (.call 159 [.t 62,.t 67] [] []),Q 69 (.not (.t 68))] [[],[0],[],[0,1,2],[0,1,2,3],[],[5],[],[5,6,7],[5,6,7,8],[0,1,2,3,4,5,6,7,8,9],[0,1,2,3,4,5,6,7,8,9,10]] [2,3,5,69] [2,3])
 (.cond (.t 69) (.seq (.ak [Qb 4 false] [4] [])
 (.ret)) (.skip))))
 (.ak [Qm 56 5,Q 57 (.bin .add (.t 56) (kI 1)),Qm 5 57] [2,3,5] [2,3]))
def bS.l1:C:= .seq (.seq (.ak [Qm 70 6,Qf 71 6 2,Ql 72 71,Q 73 (.len (.t 72)),Q 74 (.bin .lss (.t 70) (.t 73))] [2,3,6,74] [2,3])
 (.cond (.t 74) (.skip) (.exit 2)))
 (.seq (.block 3 (.seq (.gw [Qf 77 6 2,Ql 78 77,Qm 79 6,Qa 80 1 78 79,Ql 81 80,Qf 82 6 3,Ql 83 82,Qm 84 6,Qa 85 1 83 84,Ql 86 85,Q 87 (.bin .neq (.t 81) (.t 86))] [[],[0],[],[0,1,2],[0,1,2,3],[],[5],[],[5,6,7],[5,6,7,8],[0,1,2,3,4,5,6,7,8,9]] [2,3,6,87] [2,3])
 (.cond (.t 87) (.seq (.ak [Qb 4 false] [4] [])
 (.ret)) (.skip))))
 (.ak [Qm 75 6,Q 76 (.bin .add (.t 75) (kI 1)),Qm 6 76] [2,3,6] [2,3]))
def bS.b:C:= .seq (.ak [Qv 2 0,Qv 3 1,Qb 4 false] [2,3] [2,3])
 (.seq (.seq (.ak [Qf 7 0 2,Ql 8 7,Qf 9 0 3,Ql 10 9,Q 11 (.bin .neq (.t 8) (.t 10)),Qm 12 11,Qg 13 (.bC 1 (.t 2)) 12 false,Qg 14 (.load false 1 (.t 13)) 12 false,
   Qg 15 (.bC 1 (.t 3)) 12 false,Qg 16 (.load false 1 (.t 15)) 12 false,Qg 17 (.bin .neq (.t 14) (.t 16)) 12 false,Q 18 (.pick (.t 12) (kB true) (.t 17)),Qm 19 18,
   Qg 20 (.bC 2 (.t 2)) 19 false,Qg 21 (.load true 2 (.t 20)) 19 false,Qg 22 (.bC 2 (.t 3)) 19 false,Qg 23 (.load true 2 (.t 22)) 19 false,
   Qg 24 (.eqs true [.int,.int] (.t 21) (.t 23)) 19 false,Q 25 (.pick (.t 19) (kB true) (.t 24)),Qm 26 25,Qg 27 (.bC 4 (.t 2)) 26 false,Qg 28 (.load false 1 (.t 27)) 26 false,
   Qg 29 (.bC 4 (.t 3)) 26 false,Qg 30 (.load false 1 (.t 29)) 26 false,Qg 31 (.bin .neq (.t 28) (.t 30)) 26 false,Q 32 (.pick (.t 26) (kB true) (.t 31)),Qm 33 32,
   Qg 34 (.bC 5 (.t 2)) 33 false,Qg 35 (.load false 1 (.t 34)) 33 false,Qg 36 (.len (.t 35)) 33 false,Qg 37 (.bC 5 (.t 3)) 33 false,Qg 38 (.load false 1 (.t 37)) 33 false,
   Qg 39 (.len (.t 38)) 33 false,Qg 40 (.bin .neq (.t 36) (.t 39)) 33 false,Q 41 (.pick (.t 33) (kB true) (.t 40)),Qm 42 41,Qg 43 (.bC 6 (.t 2)) 42 false,
   Qg 44 (.load false 1 (.t 43)) 42 false,Qg 45 (.len (.t 44)) 42 false,Qg 46 (.bC 6 (.t 3)) 42 false,Qg 47 (.load false 1 (.t 46)) 42 false,Qg 48 (.len (.t 47)) 42 false,
   Qg 49 (.bin .neq (.t 45) (.t 48)) 42 false,Q 50 (.pick (.t 42) (kB true) (.t 49))] [2,3,50] [2,3])
 (.cond (.t 50) (.seq (.ak [Qb 4 false] [4] [])
 (.ret)) (.skip)))
 (.seq (.seq (.ak [Qi 5 0] [2,3,5] [2,3])
 (.block 0 (.loop bS.l0)))
 (.seq (.seq (.ak [Qi 6 0] [2,3,6] [2,3])
 (.block 2 (.loop bS.l1)))
 (.seq (.ak [Qb 4 true] [4] [])
 (.ret)))))
def bS.m:Fn:={np:=2,body:=bS.b,res:=[.tmp 4]}
def bS.k(M:Nat→Option Body):Prop:=M 116=some (.code bS.m)∧cq.k M
def dg.l0:C:= .seq (.seq (.ak [Qm 23 5,Qf 24 2 2,Ql 25 24,Q 26 (.len (.t 25)),Q 27 (.bin .lss (.t 23) (.t 26))] [2,3,5,27] [2,3])
 (.cond (.t 27) (.skip) (.exit 0)))
 (.seq (.block 1 (.seq (.gw [Qf 30 2 2,Ql 31 30,Qm 32 5,Qa 33 7 31 32,QL 34 7 33,Qf 35 2 3,Ql 36 35,Qm 37 5,Qa 38 7 36 37,QL 39 7 38,Q 40 (.call 116 [.t 34,.t 39] [] []),Q 41 (.not (.t 40))] [[],[0],[],[0,1,2],[0,1,2,3],[],[5],[],[5,6,7],[5,6,7,8],[0,1,2,3,4,5,6,7,8,9],[0,1,2,3,4,5,6,7,8,9,10]] [2,3,5,41] [2,3])
 (.cond (.t 41) (.seq (.ak [Qb 4 false] [4] [])
 (.ret)) (.skip))))
 (.ak [Qm 28 5,Q 29 (.bin .add (.t 28) (kI 1)),Qm 5 29] [2,3,5] [2,3]))
def dg.l1:C:= .seq (.seq (.ak [Qm 42 6,Qf 43 3 2,Ql 44 43,Q 45 (.len (.t 44)),Q 46 (.bin .lss (.t 42) (.t 45))] [2,3,6,46] [2,3])
 (.cond (.t 46) (.skip) (.exit 2)))
 (.seq (.block 3 (.seq (.gw [Qf 49 3 2,Ql 50 49,Qm 51 6,Qa 52 1 50 51,Ql 53 52,Qf 54 3 3,Ql 55 54,Qm 56 6,Qa 57 1 55 56,Ql 58 57,Q 59 (.bin .neq (.t 53) (.t 58))] [[],[0],[],[0,1,2],[0,1,2,3],[],[5],[],[5,6,7],[5,6,7,8],[0,1,2,3,4,5,6,7,8,9]] [2,3,6,59] [2,3])
 (.cond (.t 59) (.seq (.ak [Qb 4 false] [4] [])
 (.ret)) (.skip))))
 (.ak [Qm 47 6,Q 48 (.bin .add (.t 47) (kI 1)),Qm 6 48] [2,3,6] [2,3]))
def dg.b:C:= .seq (.ak [Qv 2 0,Qv 3 1,Qb 4 false] [2,3] [2,3])
 (.seq (.seq (.ak [Qf 7 2 2,Ql 8 7,Q 9 (.len (.t 8)),Qf 10 2 3,Ql 11 10,Q 12 (.len (.t 11)),Q 13 (.bin .neq (.t 9) (.t 12)),Qm 14 13,Qg 15 (.bC 3 (.t 2)) 14 false,
   Qg 16 (.load false 1 (.t 15)) 14 false,Qg 17 (.len (.t 16)) 14 false,Qg 18 (.bC 3 (.t 3)) 14 false,Qg 19 (.load false 1 (.t 18)) 14 false,Qg 20 (.len (.t 19)) 14 false,
   Qg 21 (.bin .neq (.t 17) (.t 20)) 14 false,Q 22 (.pick (.t 14) (kB true) (.t 21))] [2,3,22] [2,3])
 (.cond (.t 22) (.seq (.ak [Qb 4 false] [4] [])
 (.ret)) (.skip)))
 (.seq (.seq (.ak [Qi 5 0] [2,3,5] [2,3])
 (.block 0 (.loop dg.l0)))
 (.seq (.seq (.ak [Qi 6 0] [2,3,6] [2,3])
 (.block 2 (.loop dg.l1)))
 (.seq (.ak [Qb 4 true] [4] [])
 (.ret)))))
def dg.m:Fn:={np:=2,body:=dg.b,res:=[.tmp 4]}
def dg.k(M:Nat→Option Body):Prop:=M 31=some (.code dg.m)∧bS.k M
def gP.b:C:= .seq (.ak [Q 2 (.nil 3)] [0] [])
 (.seq (.ak [Q 3 (.bM 3 0 [.int .i64 0,.int .i64 0,.int .i64 0] []),Qm 4 0,Q 5 (.app 3 24 (.t 3) (.t 4)),Qm 2 5] [2] [2,3,5])
 (.ret))
def gP.m:Fn:={np:=1,body:=gP.b,res:=[.tmp 2]}
def gP.k(M:Nat→Option Body):Prop:=M 239=some (.code gP.m)
def eR.b:C:= .seq (.ak [Qv 1 0,Q 2 (.alloc [.int .i64 0,.int .i64 0,.aK 3,.str ⟨#[]⟩])] [1,2] [1,2,10500])
 (.seq (.ak [Qf 3 2 1,Ql 4 3,Q 5 (.call 239 [.t 4] [] [(0,10500)]),Qf 6 2 1,Qs 1 6 5] [1,2] [1,2,10500])
 (.seq (.ak [QL 7 4 1,Qs 4 2 7] [2] [2,10500])
 (.ret)))
def eR.m:Fn:={np:=1,body:=eR.b,res:=[.cell 2 true 4]}
def eR.k(M:Nat→Option Body):Prop:=M 233=some (.code eR.m)∧gP.k M
def cB.l0:C:= .seq (.ak [Q 13 (.bin .lss (.t 12) (.t 11))] [1,2,3,10,11,12,13] [1,2,3,7,21,12600])
 (.seq (.cond (.t 13) (.skip) (.exit 0))
 (.seq (.block 1 (.seq (.ak [Qa 14 4 10 12,QL 15 4 14,Q 5 (.alloc [.int .i64 0,.int .i64 0,.aK 3,.str ⟨#[]⟩]),Qs 4 5 15] [1,2,3,5,10,11,12] [1,2,3,5,7,21,12600])
 (.gw [Qf 16 5 3,Ql 17 16,QL 18 4 5,Q 19 (.call 233 [.t 18] [] []),Q 20 (.bM 4 1 [.int .i64 0,.int .i64 0,.aK 3,.str ⟨#[]⟩] [(0,.t 19)]),Q 21 (.app 4 56 (.t 17) (.t 20)),
   Qf 22 5 3,Qs 1 22 21] [[],[0],[],[2],[2,3],lr 5,lr 6,lr 7] [1,2,3,10,11,12] [1,2,3,7,21,12600])))
 (.ak [Q 23 (.bin .add (.t 12) (kI 1)),Qm 12 23] [1,2,3,10,11,12] [1,2,3,7,21,12600])))
def cB.b:C:= .seq (.ak [Qv 1 0,Q 2 (.alloc [.int .i64 0,.str ⟨#[]⟩,.int .i64 0,.int .i64 0,.int .i64 0,.aK 4,.aK 1])] [1,2] [1,2,7,21,12600])
 (.seq (.ak [QL 6 7 1,Q 3 (.alloc [.int .i64 0,.str ⟨#[]⟩,.int .i64 0,.int .i64 0,.int .i64 0,.aK 4,.aK 1]),Qs 7 3 6] [1,2,3] [1,2,3,7,21,12600])
 (.seq (.ak [Q 7 (.bM 4 0 [.int .i64 0,.int .i64 0,.aK 3,.str ⟨#[]⟩] []),Qf 8 5 3,Qs 1 8 7] [1,2,3] [1,2,3,7,21,12600])
 (.seq (.seq (.ak [Qf 9 5 1,Ql 10 9,Q 11 (.len (.t 10)),Qi 12 0] [1,2,3,10,11,12] [1,2,3,7,21,12600])
 (.block 0 (.loop cB.l0)))
 (.seq (.ak [Qf 24 6 1,Ql 25 24,Q 26 (.call 134 [.t 25] [] [(0,12600)]),Qf 27 6 3,Qs 1 27 26] [2,3] [2,3,7,21,12600])
 (.seq (.ak [QL 28 7 3,Qs 7 2 28] [2] [2,7,21,12600])
 (.ret))))))
def cB.m:Fn:={np:=1,body:=cB.b,res:=[.cell 2 true 7]}
def cB.k(M:Nat→Option Body):Prop:=M 155=some (.code cB.m)∧fc.k M∧eR.k M
def gu.l0:C:= .seq (.ak [Q 9 (.bin .lss (.t 8) (kI 3))] [0,3,5,8,9] [3,7,19])
 (.seq (.cond (.t 9) (.skip) (.exit 0))
 (.seq (.block 1 (.seq (.ak [Qm 10 8,Qm 6 10] [0,3,5,6,8] [3,7,19])
 (.gw [Qm 11 5,Qm 12 0,Qm 13 6,Q 14 (.bin .shr (.t 12) (.t 13)),Q 15 (.bin .and (.t 14) (kI 1)),QL 16 2 3,
   Q 17 (.build [.int .i64 0,.int .i64 0,.int .i64 0] [(0,1,.t 15),(1,2,.t 16)]),Q 18 (.bM 3 1 [.int .i64 0,.int .i64 0,.int .i64 0] [(0,.t 17)]),
   Q 19 (.app 3 24 (.t 11) (.t 18)),Qm 5 19] [[],[],[],[1,2],[1,2,3],[],[1,2,3,4,5],[1,2,3,4,5,6],lr 8,lr 9] [0,3,5,8] [3,7,19])))
 (.ak [Q 20 (.bin .add (.t 8) (kI 1)),Qm 8 20] [0,3,5,8] [3,7,19])))
def gu.b:C:= .seq (.ak [Qv 3 1,Q 4 (.nil 3)] [0,3] [3])
 (.seq (.ak [Q 7 (.bM 3 0 [.int .i64 0,.int .i64 0,.int .i64 0] []),Qm 5 7] [0,3,5] [3,7,19])
 (.seq (.seq (.ak [Qi 8 0] [0,3,5,8] [3,7,19])
 (.block 0 (.loop gu.l0)))
 (.seq (.ak [Qm 21 5,Qm 4 21] [4] [4,7,19])
 (.ret))))
def gu.m:Fn:={np:=2,body:=gu.b,res:=[.tmp 4]}
def gu.k(M:Nat→Option Body):Prop:=M 157=some (.code gu.m)
def eI.b:C:= .seq (.ak [Qv 5 0,Qv 9 4,Q 10 (.alloc [.int .i64 0,.str ⟨#[]⟩,.int .i64 0,.int .i64 0,.int .i64 0,.aK 4,.aK 1]),Qb 11 false] [1,2,3,5,9,10] [5,9,10,47,11405,11406,15705,15706])
 (.seq (.ak [QL 13 7 5,Q 14 (.call 155 [.t 13] [] [(5,11405),(6,11406)]),Q 12 (.alloc [.int .i64 0,.str ⟨#[]⟩,.int .i64 0,.int .i64 0,.int .i64 0,.aK 4,.aK 1]),Qs 7 12 14] [1,2,3,5,9,10,12] [5,9,10,12,47,11405,11406,15705,15706])
 (.seq (.seq (.ak [QL 15 7 5,Q 16 (.call 74 [.t 15] [] []),Q 17 (.not (.t 16)),Qm 18 17,Qg 19 (.load true 7 (.t 5)) 18 false,Qg 20 (.mv (.t 1)) 18 false,
   Qg 21 (.call 72 [.t 19,.t 20] [] []) 18 false,Qg 22 (.bin .geq (.t 21) (kI 0)) 18 false,Q 23 (.pick (.t 18) (kB true) (.t 22)),Qm 24 23,Qg 25 (.bC 6 (.t 5)) 24 false,
   Qg 26 (.load false 1 (.t 25)) 24 false,Qg 27 (.mv (.t 1)) 24 false,Qg 28 (.call 156 [.t 26,.t 27] [] []) 24 false,Q 29 (.pick (.t 24) (kB true) (.t 28)),Qm 30 29,
   Qg 31 (.mv (.t 2)) 30 false,Qg 32 (.call 148 [.t 31] [] []) 30 false,Qg 33 (.not (.t 32)) 30 false,Q 34 (.pick (.t 30) (kB true) (.t 33))] [1,2,3,5,9,10,12,34] [5,9,10,12,47,11405,11406,15705,15706])
 (.cond (.t 34) (.seq (.ak [QL 35 7 12,Qs 7 10 35,Qb 11 false] [10,11] [10,47,11405,11406,15705,15706])
 (.ret)) (.skip)))
 (.seq (.gw [Qf 36 5 12,Ql 37 36,Qm 38 1,Qf 39 4 5,Ql 40 39,Qm 41 2,QL 42 2 9,Q 43 (.call 157 [.t 41,.t 42] [] []),Qm 44 3,
   Q 45 (.build [.int .i64 0,.int .i64 0,.aK 3,.str ⟨#[]⟩] [(0,1,.t 38),(1,1,.t 40),(2,1,.t 43),(3,1,.t 44)]),
   Q 46 (.bM 4 1 [.int .i64 0,.int .i64 0,.aK 3,.str ⟨#[]⟩] [(0,.t 45)]),Q 47 (.app 4 56 (.t 37) (.t 46)),Qf 48 5 12,Qs 1 48 47] [[],[0],[],[],[3],[],[],[5,6],[],[2,3,4,5,6,7,8],[2,3,4,5,6,7,8,9],lr 11,lr 12,lr 13] [5,10,12] [5,10,12,47,11405,11406,15705,15706])
 (.seq (.ak [Qf 49 4 12,Ql 50 49,Q 51 (.bin .add (.t 50) (kI 1)),Qf 52 4 12,Qs 1 52 51] [5,10,12] [5,10,12,47,11405,11406,15705,15706])
 (.seq (.seq (.ak [QL 53 7 12,Q 54 (.call 74 [.t 53] [] []),Q 55 (.not (.t 54))] [5,10,12,55] [5,10,12,47,11405,11406,15705,15706])
 (.cond (.t 55) (.seq (.ak [QL 56 7 5,Q 57 (.call 155 [.t 56] [] [(5,15705),(6,15706)]),Qs 7 10 57,Qb 11 false] [10,11] [10,47,11405,11406,15705,15706])
 (.ret)) (.skip)))
 (.seq (.ak [QL 58 7 12,Qs 7 10 58,Qb 11 true] [10,11] [10,47,11405,11406,15705,15706])
 (.ret)))))))
def eI.m:Fn:={np:=5,body:=eI.b,res:=[.cell 10 true 7,.tmp 11]}
def eI.k(M:Nat→Option Body):Prop:=M 70=some (.code eI.m)∧cK.k M∧bJ.k M∧fX.k M∧cB.k M∧aI.k M∧gu.k M
def jG.b:C:= .seq (.ak [Q 4 (.nil 1)] [0,1] [])
 (.seq (.ak [Qm 6 0,Q 7 (.call 134 [.t 6] [] [(0,10700)]),Qm 8 1,Q 9 (.bM 1 1 [.int .i64 0] [(0,.t 8)]),Q 10 (.app 1 8 (.t 7) (.t 9)),Qm 5 10] [5] [10,10700])
 (.seq (.ak [Qm 11 5,Q 12 (.call 135 [.t 11] [0] [])] [5] [10,10700])
 (.seq (.ak [Qm 13 5,Q 14 (.call 136 [.t 13] [0] [(0,11400)]),Qm 4 14] [4] [4,10,10700,11400])
 (.ret))))
def jG.m:Fn:={np:=2,body:=jG.b,res:=[.tmp 4]}
def jG.k(M:Nat→Option Body):Prop:=M 163=some (.code jG.m)∧fc.k M∧M 135=some (.ext vE)∧M 136=some (.ext oT)
def a7.b:C:= .seq (.ak [Q 6 (.nil 4)] [0,1,2] [0,26])
 (.seq (.ak [Qm 8 0,Qm 9 1,Qm 10 2,Qm 11 0,Q 12 (.len (.t 11)),Q 13 (.xh 4 (.t 8) (some (.t 9)) (some (.t 10)) (some (.t 12)))] [0,1,2] [0,26])
 (.seq (.seq (.ak [Qm 14 1,Qm 15 2,Q 16 (.bin .eql (.t 14) (.t 15))] [0,1,2,16] [0,26])
 (.cond (.t 16) (.seq (.ak [Qm 17 0,Qm 6 17] [6] [0,6,26])
 (.ret)) (.skip)))
 (.seq (.ak [Qm 18 0,Q 19 (.len (.t 18)),Qm 7 19] [0,1,2,7] [0,26])
 (.seq (.gw [Qm 20 0,Qm 21 1,Q 22 (.xh 4 (.t 20) none (some (.t 21)) none),Qm 23 0,Qm 24 2,Q 25 (.xh 4 (.t 23) (some (.t 24)) none none),Q 26 (.yU 4 56 (.t 22) (.t 25)),Qm 0 26] [[],[],[0,1],[],[],[3,4],lr 6,lr 7] [0,7] [0,26])
 (.seq (.ak [Qm 27 0,Qm 28 0,Q 29 (.len (.t 28)),Qm 30 7,Q 31 (.yL 4 (.t 27) (some (.t 29)) (some (.t 30))),Qn (.FL [.int .i64 0,.int .i64 0,.aK 3,.str ⟨#[]⟩] (.t 31))] [0] [0,26])
 (.seq (.ak [Qm 32 0,Qm 6 32] [6] [0,6,26])
 (.ret)))))))
def a7.m:Fn:={np:=3,body:=a7.b,res:=[.tmp 6]}
def a7.k(M:Nat→Option Body):Prop:=M 162=some (.code a7.m)
def fY.b:C:= .seq (.ak [Qv 2 0,Q 4 (.alloc [.int .i64 0,.str ⟨#[]⟩,.int .i64 0,.int .i64 0,.int .i64 0,.aK 4,.aK 1]),Qb 5 false] [1,2,4] [2,4,10905,10906,13200,13700])
 (.seq (.ak [QL 8 7 2,Q 9 (.call 155 [.t 8] [] [(5,10905),(6,10906)]),Q 6 (.alloc [.int .i64 0,.str ⟨#[]⟩,.int .i64 0,.int .i64 0,.int .i64 0,.aK 4,.aK 1]),Qs 7 6 9] [1,2,4,6] [2,4,6,10905,10906,13200,13700])
 (.seq (.ak [QL 10 7 2,Qm 11 1,Q 12 (.call 72 [.t 10,.t 11] [] []),Qm 7 12] [1,2,4,6,7] [2,4,6,10905,10906,13200,13700])
 (.seq (.seq (.ak [QL 13 7 2,Q 14 (.call 74 [.t 13] [] []),Q 15 (.not (.t 14)),Qm 16 15,Qg 17 (.mv (.t 7)) 16 false,Qg 18 (.bin .lss (.t 17) (kI 0)) 16 false,
   Q 19 (.pick (.t 16) (kB true) (.t 18)),Qm 20 19,Qg 21 (.bC 6 (.t 2)) 20 false,Qg 22 (.load false 1 (.t 21)) 20 false,Qg 23 (.len (.t 22)) 20 false,
   Qg 24 (.bin .eql (.t 23) (kI 40)) 20 false,Q 25 (.pick (.t 20) (kB true) (.t 24))] [1,2,4,6,7,25] [2,4,6,10905,10906,13200,13700])
 (.cond (.t 25) (.seq (.ak [QL 26 7 6,Qs 7 4 26,Qb 5 false] [4,5] [4,10905,10906,13200,13700])
 (.ret)) (.skip)))
 (.seq (.ak [Qf 27 5 6,Ql 28 27,Qm 29 7,Qm 30 7,Q 31 (.bin .add (.t 30) (kI 1)),Q 32 (.call 162 [.t 28,.t 29,.t 31] [0] [(0,13200)]),Qf 33 5 6,Qs 1 33 32] [1,2,4,6] [2,4,6,10905,10906,13200,13700])
 (.seq (.ak [Qf 34 6 2,Ql 35 34,Qm 36 1,Q 37 (.call 163 [.t 35,.t 36] [] [(0,13700)]),Qf 38 6 6,Qs 1 38 37] [4,6] [4,6,10905,10906,13200,13700])
 (.seq (.ak [QL 39 7 6,Qs 7 4 39,Qb 5 true] [4,5] [4,10905,10906,13200,13700])
 (.ret)))))))
def fY.m:Fn:={np:=2,body:=fY.b,res:=[.cell 4 true 7,.tmp 5]}
def fY.k(M:Nat→Option Body):Prop:=M 73=some (.code fY.m)∧cK.k M∧bJ.k M∧cB.k M∧a7.k M∧jG.k M
def gm.b:C:= .seq (.ak [Qv 2 0,Qv 3 1,Qb 4 false] [2,3] [2,3])
 (.seq (.ak [Qf 5 0 2,Ql 6 5,Qf 7 0 3,Ql 8 7,Q 9 (.bin .gtr (.t 6) (.t 8)),Qm 10 9,Qg 11 (.bC 0 (.t 2)) 10 false,Qg 12 (.load false 1 (.t 11)) 10 false,
   Qg 13 (.bC 0 (.t 3)) 10 false,Qg 14 (.load false 1 (.t 13)) 10 false,Qg 15 (.bin .eql (.t 12) (.t 14)) 10 false,Qg 16 (.mv (.t 15)) 10 false,Qg 17 (.bC 1 (.t 2)) 16 true,
   Qg 18 (.load false 1 (.t 17)) 16 true,Qg 19 (.bC 1 (.t 3)) 16 true,Qg 20 (.load false 1 (.t 19)) 16 true,Qg 21 (.bin .gtr (.t 18) (.t 20)) 16 true,
   Qg 22 (.pick (.t 16) (.t 21) (kB false)) 10 false,Q 23 (.pick (.t 10) (kB true) (.t 22)),Qm 4 23] [4] [])
 (.ret))
def gm.m:Fn:={np:=2,body:=gm.b,res:=[.tmp 4]}
def gm.k(M:Nat→Option Body):Prop:=M 275=some (.code gm.m)
def jo.b:C:= .seq (.ak [Qv 3 0,Qv 5 2,Q 6 (.alloc [.int .i64 0,.int .i64 0,.int .i64 0])] [1,3,5,6] [3,5,6])
 (.seq (.ak [Qm 8 1,QL 9 2 5,Q 10 (.build [.int .i64 0,.int .i64 0,.int .i64 0] [(0,1,.t 8),(1,2,.t 9)]),Q 7 (.alloc [.int .i64 0,.int .i64 0,.int .i64 0]),Qs 3 7 10] [3,5,6,7] [3,5,6,7])
 (.seq (.seq (.ak [QL 11 2 5,Qf 12 1 3,QL 13 2 12,Q 14 (.call 275 [.t 11,.t 13] [] []),Q 15 (.not (.t 14)),Qm 16 15,Qg 17 (.load true 3 (.t 7)) 16 false,
   Qg 18 (.call 272 [.t 17] [] []) 16 false,Qg 19 (.not (.t 18)) 16 false,Q 20 (.pick (.t 16) (kB true) (.t 19))] [3,6,7,20] [3,6,7])
 (.cond (.t 20) (.seq (.ak [QL 21 3 3,Qs 3 6 21] [6] [6])
 (.ret)) (.skip)))
 (.seq (.ak [QL 22 3 7,Qs 3 6 22] [6] [6])
 (.ret))))
def jo.m:Fn:={np:=3,body:=jo.b,res:=[.cell 6 true 3]}
def jo.k(M:Nat→Option Body):Prop:=M 240=some (.code jo.m)∧jn.k M∧gm.k M
def cQ.l0:C:= .seq (.ak [Q 25 (.bin .lss (.t 24) (.t 23))] [1,5,7,22,23,24,25] [5,11200])
 (.seq (.cond (.t 25) (.skip) (.exit 0))
 (.seq (.block 1 (.seq (.ak [Qm 26 24,Qa 27 3 22 24,QL 28 3 27,Q 9 (.alloc [.int .i64 0,.int .i64 0,.int .i64 0]),Qm 8 26,Qs 3 9 28] [1,5,7,8,9,22,23,24] [5,9,11200])
 (.seq (.ak [Qm 29 1,Qm 30 8,Q 31 (.bin .shr (.t 29) (.t 30)),Q 32 (.bin .and (.t 31) (kI 1)),Qm 10 32] [1,5,7,8,9,10,22,23,24] [5,9,11200])
 (.seq (.ak [Qf 33 0 9,Ql 34 33,Qm 35 10,Q 36 (.bin .neq (.t 34) (.t 35))] [1,5,7,8,9,10,22,23,24,36] [5,9,11200])
 (.cond (.t 36) (.ak [Qm 37 7,Qm 38 8,QL 39 3 9,Qm 40 10,QL 41 2 5,Q 42 (.call 240 [.t 39,.t 40,.t 41] [] []),Qa 43 3 37 38,Qs 3 43 42] [1,5,7,22,23,24] [5,11200]) (.skip))))))
 (.ak [Q 44 (.bin .add (.t 24) (kI 1)),Qm 24 44] [1,5,7,22,23,24] [5,11200])))
def cQ.b:C:= .seq (.ak [Qv 5 2,Q 6 (.nil 3)] [0,1,5] [5])
 (.seq (.ak [Qm 11 0,Q 12 (.call 239 [.t 11] [] [(0,11200)]),Qm 7 12] [0,1,5,7] [5,11200])
 (.seq (.seq (.ak [Qm 13 0,Q 14 (.call 235 [.t 13] [] []),Q 15 (.not (.t 14)),Qm 16 15,Qg 17 (.mv (.t 1)) 16 false,Qg 18 (.call 148 [.t 17] [] []) 16 false,Qg 19 (.not (.t 18)) 16 false,
   Q 20 (.pick (.t 16) (kB true) (.t 19))] [1,5,7,20] [5,11200])
 (.cond (.t 20) (.seq (.ak [Qm 21 7,Qm 6 21] [6] [6,11200])
 (.ret)) (.skip)))
 (.seq (.seq (.ak [Qm 22 7,Q 23 (.len (.t 22)),Qi 24 0] [1,5,7,22,23,24] [5,11200])
 (.block 0 (.loop cQ.l0)))
 (.seq (.ak [Qm 45 7,Qm 6 45] [6] [6,11200])
 (.ret)))))
def cQ.m:Fn:={np:=3,body:=cQ.b,res:=[.tmp 6]}
def cQ.k(M:Nat→Option Body):Prop:=M 182=some (.code cQ.m)∧fX.k M∧dL.k M∧gP.k M∧jo.k M
def dV.b:C:= .seq (.ak [Qv 4 0,Qv 7 3,Q 8 (.alloc [.int .i64 0,.str ⟨#[]⟩,.int .i64 0,.int .i64 0,.int .i64 0,.aK 4,.aK 1]),Qb 9 false] [1,2,4,7,8] [4,7,8,11305,11306])
 (.seq (.ak [QL 12 7 4,Q 13 (.call 155 [.t 12] [] [(5,11305),(6,11306)]),Q 10 (.alloc [.int .i64 0,.str ⟨#[]⟩,.int .i64 0,.int .i64 0,.int .i64 0,.aK 4,.aK 1]),Qs 7 10 13] [1,2,4,7,8,10] [4,7,8,10,11305,11306])
 (.seq (.ak [QL 14 7 4,Qm 15 1,Q 16 (.call 72 [.t 14,.t 15] [] []),Qm 11 16] [2,4,7,8,10,11] [4,7,8,10,11305,11306])
 (.seq (.seq (.ak [QL 17 7 4,Q 18 (.call 74 [.t 17] [] []),Q 19 (.not (.t 18)),Qm 20 19,Qg 21 (.mv (.t 11)) 20 false,Qg 22 (.bin .lss (.t 21) (kI 0)) 20 false,
   Q 23 (.pick (.t 20) (kB true) (.t 22)),Qm 24 23,Qg 25 (.mv (.t 2)) 24 false,Qg 26 (.call 148 [.t 25] [] []) 24 false,Qg 27 (.not (.t 26)) 24 false,
   Q 28 (.pick (.t 24) (kB true) (.t 27)),Qm 29 28,Qg 30 (.load true 2 (.t 7)) 29 false,Qg 31 (.call 164 [.t 30] [] []) 29 false,Qg 32 (.not (.t 31)) 29 false,
   Q 33 (.pick (.t 29) (kB true) (.t 32))] [2,4,7,8,10,11,33] [4,7,8,10,11305,11306])
 (.cond (.t 33) (.seq (.ak [QL 34 7 10,Qs 7 8 34,Qb 9 false] [8,9] [8,11305,11306])
 (.ret)) (.skip)))
 (.seq (.gw [Qf 35 5 10,Ql 36 35,Qm 37 11,Qf 38 5 4,Ql 39 38,Qm 40 11,Qa 41 4 39 40,Qf 42 2 41,Ql 43 42,Qm 44 2,QL 45 2 7,Q 46 (.call 182 [.t 43,.t 44,.t 45] [] []),Qa 47 4 36 37,
   Qf 48 2 47,Qs 1 48 46] [[],[0],[],[],[3],[],[3,4,5],[3,4,5,6],[3,4,5,6,7],[],[],[3,4,5,6,7,8,9,10],lr 12,lr 13,lr 14] [8,10] [8,10,11305,11306])
 (.seq (.ak [QL 49 7 10,Qs 7 8 49,Qb 9 true] [8,9] [8,11305,11306])
 (.ret))))))
def dV.m:Fn:={np:=4,body:=dV.b,res:=[.cell 8 true 7,.tmp 9]}
def dV.k(M:Nat→Option Body):Prop:=M 83=some (.code dV.m)∧cK.k M∧bJ.k M∧fX.k M∧cB.k M∧gI.k M∧cQ.k M
def iq.b:C:= .seq (.ak [Q 2 (.nil 3)] [0] [])
 (.seq (.ak [Q 3 (.bM 3 0 [.int .i64 0,.int .i64 0,.int .i64 0] []),Qm 4 0,Q 5 (.app 3 24 (.t 3) (.t 4)),Qm 2 5] [2] [2,3,5])
 (.ret))
def iq.m:Fn:={np:=1,body:=iq.b,res:=[.tmp 2]}
def iq.k(M:Nat→Option Body):Prop:=M 241=some (.code iq.m)
def fU.b:C:= .seq (.ak [Qv 1 0,Q 2 (.alloc [.int .i64 0,.int .i64 0,.aK 3,.str ⟨#[]⟩])] [1,2] [1,2,10500])
 (.seq (.ak [Qf 3 2 1,Ql 4 3,Q 5 (.call 241 [.t 4] [] [(0,10500)]),Qf 6 2 1,Qs 1 6 5] [1,2] [1,2,10500])
 (.seq (.ak [QL 7 4 1,Qs 4 2 7] [2] [2,10500])
 (.ret)))
def fU.m:Fn:={np:=1,body:=fU.b,res:=[.cell 2 true 4]}
def fU.k(M:Nat→Option Body):Prop:=M 238=some (.code fU.m)∧iq.k M
def cd.l0:C:= .seq (.seq (.ak [Qm 8 4,Qf 9 5 1,Ql 10 9,Q 11 (.len (.t 10)),Q 12 (.bin .lss (.t 8) (.t 11))] [1,2,3,4,12] [1,2,3,6,24,26,29])
 (.cond (.t 12) (.skip) (.exit 0)))
 (.seq (.block 1 (.gw [Qf 15 5 3,Ql 16 15,Qf 17 5 1,Ql 18 17,Qm 19 4,Qa 20 4 18 19,QL 21 4 20,Q 22 (.call 238 [.t 21] [] []),
   Q 23 (.bM 4 1 [.int .i64 0,.int .i64 0,.aK 3,.str ⟨#[]⟩] [(0,.t 22)]),Q 24 (.app 4 56 (.t 16) (.t 23)),Qf 25 5 3,Qs 1 25 24] [[],[0],[],[2],[],[2,3,4],[2,3,4,5],[2,3,4,5,6],[2,3,4,5,6,7],lr 9,lr 10,lr 11] [1,2,3,4] [1,2,3,6,24,26,29]))
 (.ak [Qm 13 4,Q 14 (.bin .add (.t 13) (kI 1)),Qm 4 14] [1,2,3,4] [1,2,3,6,24,26,29]))
def cd.b:C:= .seq (.ak [Qv 1 0,Q 2 (.alloc [.int .i64 0,.str ⟨#[]⟩,.int .i64 0,.int .i64 0,.int .i64 0,.aK 4,.aK 1])] [1,2] [1,2,6,24,26,29])
 (.seq (.ak [QL 5 7 1,Q 3 (.alloc [.int .i64 0,.str ⟨#[]⟩,.int .i64 0,.int .i64 0,.int .i64 0,.aK 4,.aK 1]),Qs 7 3 5] [1,2,3] [1,2,3,6,24,26,29])
 (.seq (.ak [Q 6 (.bM 4 0 [.int .i64 0,.int .i64 0,.aK 3,.str ⟨#[]⟩] []),Qf 7 5 3,Qs 1 7 6] [1,2,3] [1,2,3,6,24,26,29])
 (.seq (.seq (.ak [Qi 4 0] [1,2,3,4] [1,2,3,6,24,26,29])
 (.block 0 (.loop cd.l0)))
 (.seq (.ak [Q 26 (.bM 1 0 [.int .i64 0] []),Qf 27 6 1,Ql 28 27,Q 29 (.app 1 8 (.t 26) (.t 28)),Qf 30 6 3,Qs 1 30 29] [2,3] [2,3,6,24,26,29])
 (.seq (.ak [QL 31 7 3,Qs 7 2 31] [2] [2,6,24,26,29])
 (.ret))))))
def cd.m:Fn:={np:=1,body:=cd.b,res:=[.cell 2 true 7]}
def cd.k(M:Nat→Option Body):Prop:=M 180=some (.code cd.m)∧fU.k M
def gn.l0:C:= .seq (.seq (.ak [Qm 9 6,Q 10 (.bin .lss (.t 9) (kI 3))] [0,3,5,6,10] [3,8,24])
 (.cond (.t 10) (.skip) (.exit 0)))
 (.seq (.block 1 (.seq (.ak [Qi 7 0] [0,3,5,6,7] [3,8,24])
 (.seq (.seq (.ak [Qm 13 0,Qm 14 6,Q 15 (.qY .u64 (.t 14)),Q 16 (.bin .shr (.t 13) (.t 15)),Q 17 (.bin .rem (.t 16) (kI 2)),Q 18 (.bin .neq (.t 17) (kI 0))] [0,3,5,6,7,18] [3,8,24])
 (.cond (.t 18) (.ak [Qi 7 1] [0,3,5,6,7] [3,8,24]) (.skip)))
 (.ak [Qm 19 5,Qm 20 7,QL 21 2 3,Q 22 (.build [.int .i64 0,.int .i64 0,.int .i64 0] [(0,1,.t 20),(1,2,.t 21)]),
   Q 23 (.bM 3 1 [.int .i64 0,.int .i64 0,.int .i64 0] [(0,.t 22)]),Q 24 (.app 3 24 (.t 19) (.t 23)),Qm 5 24] [0,3,5,6] [3,8,24]))))
 (.ak [Qm 11 6,Q 12 (.bin .add (.t 11) (kI 1)),Qm 6 12] [0,3,5,6] [3,8,24]))
def gn.b:C:= .seq (.ak [Qv 3 1,Q 4 (.nil 3)] [0,3] [3])
 (.seq (.ak [Q 8 (.bM 3 0 [.int .i64 0,.int .i64 0,.int .i64 0] []),Qm 5 8] [0,3,5] [3,8,24])
 (.seq (.seq (.ak [Qi 6 0] [0,3,5,6] [3,8,24])
 (.block 0 (.loop gn.l0)))
 (.seq (.ak [Qm 25 5,Qm 4 25] [4] [4,8,24])
 (.ret))))
def gn.m:Fn:={np:=2,body:=gn.b,res:=[.tmp 4]}
def gn.k(M:Nat→Option Body):Prop:=M 181=some (.code gn.m)
def eH.b:C:= .seq (.ak [Qv 5 0,Qv 9 4,Q 10 (.alloc [.int .i64 0,.str ⟨#[]⟩,.int .i64 0,.int .i64 0,.int .i64 0,.aK 4,.aK 1]),Qb 11 false] [1,2,3,5,9,10] [5,9,10,47,11405,11406,15705,15706])
 (.seq (.ak [QL 13 7 5,Q 14 (.call 180 [.t 13] [] [(5,11405),(6,11406)]),Q 12 (.alloc [.int .i64 0,.str ⟨#[]⟩,.int .i64 0,.int .i64 0,.int .i64 0,.aK 4,.aK 1]),Qs 7 12 14] [1,2,3,5,9,10,12] [5,9,10,12,47,11405,11406,15705,15706])
 (.seq (.seq (.ak [QL 15 7 5,Q 16 (.call 88 [.t 15] [] []),Q 17 (.not (.t 16)),Qm 18 17,Qg 19 (.load true 7 (.t 5)) 18 false,Qg 20 (.mv (.t 1)) 18 false,
   Qg 21 (.call 91 [.t 19,.t 20] [] []) 18 false,Qg 22 (.bin .geq (.t 21) (kI 0)) 18 false,Q 23 (.pick (.t 18) (kB true) (.t 22)),Qm 24 23,Qg 25 (.bC 6 (.t 5)) 24 false,
   Qg 26 (.load false 1 (.t 25)) 24 false,Qg 27 (.mv (.t 1)) 24 false,Qg 28 (.call 132 [.t 26,.t 27] [] []) 24 false,Q 29 (.pick (.t 24) (kB true) (.t 28)),Qm 30 29,
   Qg 31 (.mv (.t 2)) 30 false,Qg 32 (.call 98 [.t 31,kI 0,kI 7] [] []) 30 false,Qg 33 (.not (.t 32)) 30 false,Q 34 (.pick (.t 30) (kB true) (.t 33))] [1,2,3,5,9,10,12,34] [5,9,10,12,47,11405,11406,15705,15706])
 (.cond (.t 34) (.seq (.ak [QL 35 7 12,Qs 7 10 35,Qb 11 false] [10,11] [10,47,11405,11406,15705,15706])
 (.ret)) (.skip)))
 (.seq (.gw [Qf 36 5 12,Ql 37 36,Qm 38 1,Qf 39 4 5,Ql 40 39,Qm 41 2,QL 42 2 9,Q 43 (.call 181 [.t 41,.t 42] [] []),Qm 44 3,
   Q 45 (.build [.int .i64 0,.int .i64 0,.aK 3,.str ⟨#[]⟩] [(0,1,.t 38),(1,1,.t 40),(2,1,.t 43),(3,1,.t 44)]),
   Q 46 (.bM 4 1 [.int .i64 0,.int .i64 0,.aK 3,.str ⟨#[]⟩] [(0,.t 45)]),Q 47 (.app 4 56 (.t 37) (.t 46)),Qf 48 5 12,Qs 1 48 47] [[],[0],[],[],[3],[],[],[5,6],[],[2,3,4,5,6,7,8],[2,3,4,5,6,7,8,9],lr 11,lr 12,lr 13] [5,10,12] [5,10,12,47,11405,11406,15705,15706])
 (.seq (.ak [Qf 49 4 5,Ql 50 49,Q 51 (.bin .add (.t 50) (kI 1)),Qf 52 4 12,Qs 1 52 51] [5,10,12] [5,10,12,47,11405,11406,15705,15706])
 (.seq (.seq (.ak [QL 53 7 12,Q 54 (.call 88 [.t 53] [] []),Q 55 (.not (.t 54))] [5,10,12,55] [5,10,12,47,11405,11406,15705,15706])
 (.cond (.t 55) (.seq (.ak [QL 56 7 5,Q 57 (.call 180 [.t 56] [] [(5,15705),(6,15706)]),Qs 7 10 57,Qb 11 false] [10,11] [10,47,11405,11406,15705,15706])
 (.ret)) (.skip)))
 (.seq (.ak [QL 58 7 12,Qs 7 10 58,Qb 11 true] [10,11] [10,47,11405,11406,15705,15706])
 (.ret)))))))
def eH.m:Fn:={np:=5,body:=eH.b,res:=[.cell 10 true 7,.tmp 11]}
def eH.k(M:Nat→Option Body):Prop:=M 81=some (.code eH.m)∧bE.k M∧bT.k M∧bR.k M∧bj.k M∧cd.k M∧gn.k M
def iB.b:C:= .seq (.ak [Qv 2 0,Qv 3 1,Qb 4 false] [2,3] [2,3])
 (.seq (.seq (.ak [Qf 5 0 2,Ql 6 5,Qf 7 0 3,Ql 8 7,Q 9 (.bin .neq (.t 6) (.t 8))] [2,3,9] [2,3])
 (.cond (.t 9) (.seq (.ak [Qf 10 0 2,Ql 11 10,Qf 12 0 3,Ql 13 12,Q 14 (.bin .gtr (.t 11) (.t 13)),Qm 4 14] [4] [])
 (.ret)) (.skip)))
 (.seq (.ak [Qf 15 1 2,Ql 16 15,Qf 17 1 3,Ql 18 17,Q 19 (.bin .gtr (.t 16) (.t 18)),Qm 4 19] [4] [])
 (.ret)))
def iB.m:Fn:={np:=2,body:=iB.b,res:=[.tmp 4]}
def iB.k(M:Nat→Option Body):Prop:=M 277=some (.code iB.m)
def jm.b:C:= .seq (.ak [Qv 3 0,Qv 5 2,Q 6 (.alloc [.int .i64 0,.int .i64 0,.int .i64 0])] [1,3,5,6] [3,5,6])
 (.seq (.ak [Qm 8 1,QL 9 2 5,Q 10 (.build [.int .i64 0,.int .i64 0,.int .i64 0] [(0,1,.t 8),(1,2,.t 9)]),Q 7 (.alloc [.int .i64 0,.int .i64 0,.int .i64 0]),Qs 3 7 10] [3,5,6,7] [3,5,6,7])
 (.seq (.seq (.ak [QL 11 2 5,Qf 12 1 3,QL 13 2 12,Q 14 (.call 277 [.t 11,.t 13] [] []),Q 15 (.not (.t 14)),Qm 16 15,Qg 17 (.load true 3 (.t 7)) 16 false,
   Qg 18 (.call 276 [.t 17] [] []) 16 false,Qg 19 (.not (.t 18)) 16 false,Q 20 (.pick (.t 16) (kB true) (.t 19))] [3,6,7,20] [3,6,7])
 (.cond (.t 20) (.seq (.ak [QL 21 3 3,Qs 3 6 21] [6] [6])
 (.ret)) (.skip)))
 (.seq (.ak [QL 22 3 7,Qs 3 6 22] [6] [6])
 (.ret))))
def jm.m:Fn:={np:=3,body:=jm.b,res:=[.cell 6 true 3]}
def jm.k(M:Nat→Option Body):Prop:=M 243=some (.code jm.m)∧jl.k M∧iB.k M
def cP.l0:C:= .seq (.seq (.ak [Qm 21 8,Qm 22 7,Q 23 (.len (.t 22)),Q 24 (.bin .lss (.t 21) (.t 23))] [1,5,7,8,24] [5,11100])
 (.cond (.t 24) (.skip) (.exit 0)))
 (.seq (.block 1 (.seq (.ak [Qm 27 1,Qm 28 8,Q 29 (.qY .u64 (.t 28)),Q 30 (.bin .shr (.t 27) (.t 29)),Q 31 (.bin .rem (.t 30) (kI 2)),Qm 9 31] [1,5,7,8,9] [5,11100])
 (.seq (.ak [Qm 32 7,Qm 33 8,Qa 34 3 32 33,Qf 35 0 34,Ql 36 35,Qm 37 9,Q 38 (.bin .neq (.t 36) (.t 37))] [1,5,7,8,9,38] [5,11100])
 (.cond (.t 38) (.gw [Qm 39 7,Qm 40 8,Qm 41 7,Qm 42 8,Qa 43 3 41 42,QL 44 3 43,Qm 45 9,QL 46 2 5,Q 47 (.call 243 [.t 44,.t 45,.t 46] [] []),Qa 48 3 39 40,Qs 3 48 47] [[],[],[],[],[2,3],[2,3,4],[],[],[2,3,4,5,6,7],lr 9,lr 10] [1,5,7,8] [5,11100]) (.skip)))))
 (.ak [Qm 25 8,Q 26 (.bin .add (.t 25) (kI 1)),Qm 8 26] [1,5,7,8] [5,11100]))
def cP.b:C:= .seq (.ak [Qv 5 2,Q 6 (.nil 3)] [0,1,5] [5])
 (.seq (.ak [Qm 10 0,Q 11 (.call 241 [.t 10] [] [(0,11100)]),Qm 7 11] [0,1,5,7] [5,11100])
 (.seq (.seq (.ak [Qm 12 0,Q 13 (.call 242 [.t 12] [] []),Q 14 (.not (.t 13)),Qm 15 14,Qg 16 (.mv (.t 1)) 15 false,Qg 17 (.call 98 [.t 16,kI 0,kI 7] [] []) 15 false,
   Qg 18 (.not (.t 17)) 15 false,Q 19 (.pick (.t 15) (kB true) (.t 18))] [1,5,7,19] [5,11100])
 (.cond (.t 19) (.seq (.ak [Qm 20 7,Qm 6 20] [6] [6,11100])
 (.ret)) (.skip)))
 (.seq (.seq (.ak [Qi 8 0] [1,5,7,8] [5,11100])
 (.block 0 (.loop cP.l0)))
 (.seq (.ak [Qm 49 7,Qm 6 49] [6] [6,11100])
 (.ret)))))
def cP.m:Fn:={np:=3,body:=cP.b,res:=[.tmp 6]}
def cP.k(M:Nat→Option Body):Prop:=M 184=some (.code cP.m)∧bR.k M∧iq.k M∧dJ.k M∧jm.k M
def dS.b:C:= .seq (.ak [Qv 4 0,Qv 7 3,Q 8 (.alloc [.int .i64 0,.str ⟨#[]⟩,.int .i64 0,.int .i64 0,.int .i64 0,.aK 4,.aK 1]),Qb 9 false] [1,2,4,7,8] [4,7,8,11305,11306])
 (.seq (.ak [QL 12 7 4,Q 13 (.call 180 [.t 12] [] [(5,11305),(6,11306)]),Q 10 (.alloc [.int .i64 0,.str ⟨#[]⟩,.int .i64 0,.int .i64 0,.int .i64 0,.aK 4,.aK 1]),Qs 7 10 13] [1,2,4,7,8,10] [4,7,8,10,11305,11306])
 (.seq (.ak [QL 14 7 4,Qm 15 1,Q 16 (.call 91 [.t 14,.t 15] [] []),Qm 11 16] [2,4,7,8,10,11] [4,7,8,10,11305,11306])
 (.seq (.seq (.ak [QL 17 7 4,Q 18 (.call 88 [.t 17] [] []),Q 19 (.not (.t 18)),Qm 20 19,Qg 21 (.mv (.t 11)) 20 false,Qg 22 (.bin .lss (.t 21) (kI 0)) 20 false,
   Q 23 (.pick (.t 20) (kB true) (.t 22)),Qm 24 23,Qg 25 (.mv (.t 2)) 24 false,Qg 26 (.call 98 [.t 25,kI 0,kI 7] [] []) 24 false,Qg 27 (.not (.t 26)) 24 false,
   Q 28 (.pick (.t 24) (kB true) (.t 27)),Qm 29 28,Qg 30 (.load true 2 (.t 7)) 29 false,Qg 31 (.call 183 [.t 30] [] []) 29 false,Qg 32 (.not (.t 31)) 29 false,
   Q 33 (.pick (.t 29) (kB true) (.t 32))] [2,4,7,8,10,11,33] [4,7,8,10,11305,11306])
 (.cond (.t 33) (.seq (.ak [QL 34 7 10,Qs 7 8 34,Qb 9 false] [8,9] [8,11305,11306])
 (.ret)) (.skip)))
 (.seq (.gw [Qf 35 5 10,Ql 36 35,Qm 37 11,Qf 38 5 4,Ql 39 38,Qm 40 11,Qa 41 4 39 40,Qf 42 2 41,Ql 43 42,Qm 44 2,QL 45 2 7,Q 46 (.call 184 [.t 43,.t 44,.t 45] [] []),Qa 47 4 36 37,
   Qf 48 2 47,Qs 1 48 46] [[],[0],[],[],[3],[],[3,4,5],[3,4,5,6],[3,4,5,6,7],[],[],[3,4,5,6,7,8,9,10],lr 12,lr 13,lr 14] [8,10] [8,10,11305,11306])
 (.seq (.ak [QL 49 7 10,Qs 7 8 49,Qb 9 true] [8,9] [8,11305,11306])
 (.ret))))))
def dS.m:Fn:={np:=4,body:=dS.b,res:=[.cell 8 true 7,.tmp 9]}
def dS.k(M:Nat→Option Body):Prop:=M 84=some (.code dS.m)∧bE.k M∧bT.k M∧bR.k M∧cd.k M∧gG.k M∧cP.k M
def du.b:C:= .seq (.ak [Qv 2 0,Q 4 (.alloc [.int .i64 0,.str ⟨#[]⟩,.int .i64 0,.int .i64 0,.int .i64 0,.aK 4,.aK 1]),Qb 5 false] [1,2,4] [2,4,27,32,38,10905,10906,14300])
 (.seq (.ak [QL 8 7 2,Q 9 (.call 180 [.t 8] [] [(5,10905),(6,10906)]),Q 6 (.alloc [.int .i64 0,.str ⟨#[]⟩,.int .i64 0,.int .i64 0,.int .i64 0,.aK 4,.aK 1]),Qs 7 6 9] [1,2,4,6] [2,4,6,27,32,38,10905,10906,14300])
 (.seq (.ak [QL 10 7 2,Qm 11 1,Q 12 (.call 91 [.t 10,.t 11] [] []),Qm 7 12] [1,2,4,6,7] [2,4,6,27,32,38,10905,10906,14300])
 (.seq (.seq (.ak [QL 13 7 2,Q 14 (.call 88 [.t 13] [] []),Q 15 (.not (.t 14)),Qm 16 15,Qg 17 (.mv (.t 7)) 16 false,Qg 18 (.bin .lss (.t 17) (kI 0)) 16 false,
   Q 19 (.pick (.t 16) (kB true) (.t 18)),Qm 20 19,Qg 21 (.bC 6 (.t 2)) 20 false,Qg 22 (.load false 1 (.t 21)) 20 false,Qg 23 (.len (.t 22)) 20 false,
   Qg 24 (.bin .geq (.t 23) (kI 40)) 20 false,Q 25 (.pick (.t 20) (kB true) (.t 24))] [1,2,4,6,7,25] [2,4,6,27,32,38,10905,10906,14300])
 (.cond (.t 25) (.seq (.ak [QL 26 7 6,Qs 7 4 26,Qb 5 false] [4,5] [4,27,32,38,10905,10906,14300])
 (.ret)) (.skip)))
 (.seq (.gw [Q 27 (.bM 4 0 [.int .i64 0,.int .i64 0,.aK 3,.str ⟨#[]⟩] []),Qf 28 5 6,Ql 29 28,Qm 30 7,Q 31 (.xh 4 (.t 29) none (some (.t 30)) none),
   Q 32 (.app 4 56 (.t 27) (.t 31)),Qf 33 5 6,Ql 34 33,Qm 35 7,Q 36 (.bin .add (.t 35) (kI 1)),Q 37 (.xh 4 (.t 34) (some (.t 36)) none none),Q 38 (.app 4 56 (.t 32) (.t 37)),
   Qf 39 5 6,Qs 1 39 38] [[],[],[1],[],[1,2,3],lr 5,[],[6],[],[8],[6,7,8,9],lr 11,lr 12,lr 13] [1,2,4,6] [2,4,6,27,32,38,10905,10906,14300])
 (.seq (.ak [Qf 40 6 2,Ql 41 40,Qm 42 1,Q 43 (.call 133 [.t 41,.t 42] [] [(0,14300)]),Qf 44 6 6,Qs 1 44 43] [4,6] [4,6,27,32,38,10905,10906,14300])
 (.seq (.ak [QL 45 7 6,Qs 7 4 45,Qb 5 true] [4,5] [4,27,32,38,10905,10906,14300])
 (.ret)))))))
def du.m:Fn:={np:=2,body:=du.b,res:=[.cell 4 true 7,.tmp 5]}
def du.k(M:Nat→Option Body):Prop:=M 86=some (.code du.m)∧bE.k M∧bT.k M∧b9.k M∧cd.k M
def dC.l0:C:= .seq (.seq (.ak [Qm 6 5,Qf 7 2 2,Ql 8 7,Q 9 (.len (.t 8)),Q 10 (.bin .lss (.t 6) (.t 9))] [1,2,5,10] [2])
 (.cond (.t 10) (.skip) (.exit 0)))
 (.seq (.block 1 (.seq (.ak [Qf 13 2 2,Ql 14 13,Qm 15 5,Qa 16 7 14 15,Qf 17 0 16,Ql 18 17,Qm 19 1,Q 20 (.bin .eql (.t 18) (.t 19))] [1,2,5,20] [2])
 (.cond (.t 20) (.seq (.ak [Qm 21 5,Qm 4 21] [4] [])
 (.ret)) (.skip))))
 (.ak [Qm 11 5,Q 12 (.bin .add (.t 11) (kI 1)),Qm 5 12] [1,2,5] [2]))
def dC.b:C:= .seq (.ak [Qv 2 0,Qi 4 0] [1,2] [2])
 (.seq (.seq (.ak [Qi 5 0] [1,2,5] [2])
 (.block 0 (.loop dC.l0)))
 (.seq (.ak [Qi 4 (-1)] [4] [])
 (.ret)))
def dC.m:Fn:={np:=2,body:=dC.b,res:=[.tmp 4]}
def dC.k(M:Nat→Option Body):Prop:=M 196=some (.code dC.m)
def eU.l0:C:= .seq (.seq (.ak [Qm 16 5,Qf 17 2 2,Ql 18 17,Q 19 (.len (.t 18)),Q 20 (.bin .lss (.t 16) (.t 19))] [1,2,5,20] [2])
 (.cond (.t 20) (.skip) (.exit 0)))
 (.seq (.block 1 (.seq (.ak [Qf 23 2 2,Ql 24 23,Qm 25 5,Qa 26 7 24 25,QL 27 7 26,Qm 28 1,Q 29 (.call 91 [.t 27,.t 28] [] []),Q 30 (.bin .geq (.t 29) (kI 0)),Qm 31 30,Qg 32 (.bC 2 (.t 2)) 31 false,
   Qg 33 (.load false 1 (.t 32)) 31 false,Qg 34 (.mv (.t 5)) 31 false,Qg 35 (.lH 7 (.t 33) (.t 34)) 31 false,Qg 36 (.bC 6 (.t 35)) 31 false,
   Qg 37 (.load false 1 (.t 36)) 31 false,Qg 38 (.mv (.t 1)) 31 false,Qg 39 (.call 132 [.t 37,.t 38] [] []) 31 false,Q 40 (.pick (.t 31) (kB true) (.t 39))] [1,2,5,40] [2])
 (.cond (.t 40) (.seq (.ak [Qb 4 true] [4] [])
 (.ret)) (.skip))))
 (.ak [Qm 21 5,Q 22 (.bin .add (.t 21) (kI 1)),Qm 5 22] [1,2,5] [2]))
def eU.b:C:= .seq (.ak [Qv 2 0,Qb 4 false] [1,2] [2])
 (.seq (.seq (.ak [QL 6 4 2,Qm 7 1,Q 8 (.call 196 [.t 6,.t 7] [] []),Q 9 (.bin .geq (.t 8) (kI 0)),Qm 10 9,Qg 11 (.bC 3 (.t 2)) 10 false,Qg 12 (.load false 1 (.t 11)) 10 false,
   Qg 13 (.mv (.t 1)) 10 false,Qg 14 (.call 132 [.t 12,.t 13] [] []) 10 false,Q 15 (.pick (.t 10) (kB true) (.t 14))] [1,2,15] [2])
 (.cond (.t 15) (.seq (.ak [Qb 4 true] [4] [])
 (.ret)) (.skip)))
 (.seq (.seq (.ak [Qi 5 0] [1,2,5] [2])
 (.block 0 (.loop eU.l0)))
 (.seq (.ak [Qb 4 false] [4] [])
 (.ret))))
def eU.m:Fn:={np:=2,body:=eU.b,res:=[.tmp 4]}
def eU.k(M:Nat→Option Body):Prop:=M 300=some (.code eU.m)∧bT.k M∧bj.k M∧dC.k M
def dY.b:C:= .seq (.ak [Qv 1 0,Q 2 (.alloc [.int .i64 0,.int .i64 0])] [1,2] [1,2])
 (.seq (.ak [Qf 3 1 1,Ql 4 3,Q 5 (.bin .add (.t 4) (kI 1)),Qf 6 0 1,Ql 7 6,Q 8 (.build [.int .i64 0,.int .i64 0] [(0,1,.t 5),(1,1,.t 7)]),Qs 2 2 8] [2] [2])
 (.ret))
def dY.m:Fn:={np:=1,body:=dY.b,res:=[.cell 2 true 2]}
def dY.k(M:Nat→Option Body):Prop:=M 301=some (.code dY.m)
def cu.l0:C:= .seq (.seq (.ak [Qm 8 4,Qf 9 2 1,Ql 10 9,Q 11 (.len (.t 10)),Q 12 (.bin .lss (.t 8) (.t 11))] [1,2,3,4,12] [1,2,3,6,24,26,29])
 (.cond (.t 12) (.skip) (.exit 0)))
 (.seq (.block 1 (.gw [Qf 15 2 3,Ql 16 15,Qf 17 2 1,Ql 18 17,Qm 19 4,Qa 20 7 18 19,QL 21 7 20,Q 22 (.call 180 [.t 21] [] []),
   Q 23 (.bM 7 1 [.int .i64 0,.str ⟨#[]⟩,.int .i64 0,.int .i64 0,.int .i64 0,.aK 4,.aK 1] [(0,.t 22)]),Q 24 (.app 7 96 (.t 16) (.t 23)),Qf 25 2 3,Qs 1 25 24] [[],[0],[],[2],[],[2,3,4],[2,3,4,5],[2,3,4,5,6],[2,3,4,5,6,7],lr 9,lr 10,lr 11] [1,2,3,4] [1,2,3,6,24,26,29]))
 (.ak [Qm 13 4,Q 14 (.bin .add (.t 13) (kI 1)),Qm 4 14] [1,2,3,4] [1,2,3,6,24,26,29]))
def cu.b:C:= .seq (.ak [Qv 1 0,Q 2 (.alloc [.int .i64 0,.int .i64 0,.aK 7,.aK 1])] [1,2] [1,2,6,24,26,29])
 (.seq (.ak [QL 5 4 1,Q 3 (.alloc [.int .i64 0,.int .i64 0,.aK 7,.aK 1]),Qs 4 3 5] [1,2,3] [1,2,3,6,24,26,29])
 (.seq (.ak [Q 6 (.bM 7 0 [.int .i64 0,.str ⟨#[]⟩,.int .i64 0,.int .i64 0,.int .i64 0,.aK 4,.aK 1] []),Qf 7 2 3,Qs 1 7 6] [1,2,3] [1,2,3,6,24,26,29])
 (.seq (.seq (.ak [Qi 4 0] [1,2,3,4] [1,2,3,6,24,26,29])
 (.block 0 (.loop cu.l0)))
 (.seq (.ak [Q 26 (.bM 1 0 [.int .i64 0] []),Qf 27 3 1,Ql 28 27,Q 29 (.app 1 8 (.t 26) (.t 28)),Qf 30 3 3,Qs 1 30 29] [2,3] [2,3,6,24,26,29])
 (.seq (.ak [QL 31 4 3,Qs 4 2 31] [2] [2,6,24,26,29])
 (.ret))))))
def cu.m:Fn:={np:=1,body:=cu.b,res:=[.cell 2 true 4]}
def cu.k(M:Nat→Option Body):Prop:=M 219=some (.code cu.m)∧cd.k M
def b4.l0:C:= .seq (.seq (.ak [Qm 37 10,Qf 38 2 3,Ql 39 38,Q 40 (.len (.t 39)),Q 41 (.bin .lss (.t 37) (.t 40))] [1,3,6,8,9,10,41] [3,6,8,9,30,61,67,93,12702,12703,12902,12903,20302,20303])
 (.cond (.t 41) (.skip) (.exit 0)))
 (.seq (.block 1 (.seq (.ak [Qf 44 2 3,Ql 45 44,Qm 46 10,Qa 47 7 45 46,Qf 48 0 47,Ql 49 48,Qm 50 1,Q 51 (.bin .lss (.t 49) (.t 50))] [1,3,6,8,9,10,51] [3,6,8,9,30,61,67,93,12702,12703,12902,12903,20302,20303])
 (.cond (.t 51) (.gw [Qf 52 2 8,Ql 53 52,Qf 54 2 3,Ql 55 54,Qm 56 10,Qa 57 7 55 56,QL 58 7 57,Q 59 (.call 180 [.t 58] [] []),
   Q 60 (.bM 7 1 [.int .i64 0,.str ⟨#[]⟩,.int .i64 0,.int .i64 0,.int .i64 0,.aK 4,.aK 1] [(0,.t 59)]),Q 61 (.app 7 96 (.t 53) (.t 60)),Qf 62 2 8,Qs 1 62 61] [[],[0],[],[2],[],[2,3,4],[2,3,4,5],[2,3,4,5,6],[2,3,4,5,6,7],lr 9,lr 10,lr 11] [1,3,6,8,9,10] [3,6,8,9,30,61,67,93,12702,12703,12902,12903,20302,20303]) (.skip))))
 (.ak [Qm 42 10,Q 43 (.bin .add (.t 42) (kI 1)),Qm 10 43] [1,3,6,8,9,10] [3,6,8,9,30,61,67,93,12702,12703,12902,12903,20302,20303]))
def b4.l1:C:= .seq (.seq (.ak [Qm 69 11,Qf 70 2 3,Ql 71 70,Q 72 (.len (.t 71)),Q 73 (.bin .lss (.t 69) (.t 72))] [1,3,6,8,11,73] [3,6,8,30,61,67,93,12702,12703,12902,12903,20302,20303])
 (.cond (.t 73) (.skip) (.exit 2)))
 (.seq (.block 3 (.seq (.ak [Qf 76 2 3,Ql 77 76,Qm 78 11,Qa 79 7 77 78,Qf 80 0 79,Ql 81 80,Qm 82 1,Q 83 (.bin .gtr (.t 81) (.t 82))] [1,3,6,8,11,83] [3,6,8,30,61,67,93,12702,12703,12902,12903,20302,20303])
 (.cond (.t 83) (.gw [Qf 84 2 8,Ql 85 84,Qf 86 2 3,Ql 87 86,Qm 88 11,Qa 89 7 87 88,QL 90 7 89,Q 91 (.call 180 [.t 90] [] []),
   Q 92 (.bM 7 1 [.int .i64 0,.str ⟨#[]⟩,.int .i64 0,.int .i64 0,.int .i64 0,.aK 4,.aK 1] [(0,.t 91)]),Q 93 (.app 7 96 (.t 85) (.t 92)),Qf 94 2 8,Qs 1 94 93] [[],[0],[],[2],[],[2,3,4],[2,3,4,5],[2,3,4,5,6],[2,3,4,5,6,7],lr 9,lr 10,lr 11] [1,3,6,8,11] [3,6,8,30,61,67,93,12702,12703,12902,12903,20302,20303]) (.skip))))
 (.ak [Qm 74 11,Q 75 (.bin .add (.t 74) (kI 1)),Qm 11 75] [1,3,6,8,11] [3,6,8,30,61,67,93,12702,12703,12902,12903,20302,20303]))
def b4.b:C:= .seq (.ak [Qv 3 0,Q 6 (.alloc [.int .i64 0,.int .i64 0,.aK 7,.aK 1]),Qb 7 false] [1,2,3,6] [3,6,30,61,67,93,12702,12703,12902,12903,20302,20303])
 (.seq (.seq (.ak [QL 12 4 3,Q 13 (.call 149 [.t 12] [] []),Q 14 (.not (.t 13)),Qm 15 14,Qg 16 (.load true 4 (.t 3)) 15 false,Qg 17 (.mv (.t 1)) 15 false,
   Qg 18 (.call 300 [.t 16,.t 17] [] []) 15 false,Q 19 (.pick (.t 15) (kB true) (.t 18)),Qm 20 19,Qg 21 (.load true 4 (.t 3)) 20 false,Qg 22 (.mv (.t 2)) 20 false,
   Qg 23 (.call 226 [.t 21,.t 22] [] []) 20 false,Qg 24 (.bin .geq (.t 23) (kI 0)) 20 false,Q 25 (.pick (.t 20) (kB true) (.t 24))] [1,2,3,6,25] [3,6,30,61,67,93,12702,12703,12902,12903,20302,20303])
 (.cond (.t 25) (.seq (.ak [QL 26 4 3,Q 27 (.call 219 [.t 26] [] [(2,12702),(3,12703)]),Qs 4 6 27,Qb 7 false] [6,7] [6,30,61,67,93,12702,12703,12902,12903,20302,20303])
 (.ret)) (.skip)))
 (.seq (.ak [QL 28 4 3,Q 29 (.call 219 [.t 28] [] [(2,12902),(3,12903)]),Q 8 (.alloc [.int .i64 0,.int .i64 0,.aK 7,.aK 1]),Qs 4 8 29] [1,2,3,6,8] [3,6,8,30,61,67,93,12702,12703,12902,12903,20302,20303])
 (.seq (.ak [Q 30 (.bM 7 0 [.int .i64 0,.str ⟨#[]⟩,.int .i64 0,.int .i64 0,.int .i64 0,.aK 4,.aK 1] []),Qf 31 2 8,Qs 1 31 30] [1,2,3,6,8] [3,6,8,30,61,67,93,12702,12703,12902,12903,20302,20303])
 (.seq (.ak [Qm 32 1,Qm 33 2,QL 34 4 3,Q 35 (.call 301 [.t 34] [] []),
   Q 36 (.build [.int .i64 0,.str ⟨#[]⟩,.int .i64 0,.int .i64 0,.int .i64 0,.aK 4,.aK 1] [(0,1,.t 32),(1,1,.t 33),(2,2,.t 35),(4,1,kI 1)]),
   Q 9 (.alloc [.int .i64 0,.str ⟨#[]⟩,.int .i64 0,.int .i64 0,.int .i64 0,.aK 4,.aK 1]),Qs 7 9 36] [1,3,6,8,9] [3,6,8,9,30,61,67,93,12702,12703,12902,12903,20302,20303])
 (.seq (.seq (.ak [Qi 10 0] [1,3,6,8,9,10] [3,6,8,9,30,61,67,93,12702,12703,12902,12903,20302,20303])
 (.block 0 (.loop b4.l0)))
 (.seq (.ak [Qf 63 2 8,Ql 64 63,QL 65 7 9,Q 66 (.bM 7 1 [.int .i64 0,.str ⟨#[]⟩,.int .i64 0,.int .i64 0,.int .i64 0,.aK 4,.aK 1] [(0,.t 65)]),Q 67 (.app 7 96 (.t 64) (.t 66)),
   Qf 68 2 8,Qs 1 68 67] [1,3,6,8] [3,6,8,30,61,67,93,12702,12703,12902,12903,20302,20303])
 (.seq (.seq (.ak [Qi 11 0] [1,3,6,8,11] [3,6,8,30,61,67,93,12702,12703,12902,12903,20302,20303])
 (.block 2 (.loop b4.l1)))
 (.seq (.ak [Qf 95 1 3,Ql 96 95,Q 97 (.bin .add (.t 96) (kI 1)),Qf 98 1 8,Qs 1 98 97] [3,6,8] [3,6,8,30,61,67,93,12702,12703,12902,12903,20302,20303])
 (.seq (.seq (.ak [QL 99 4 8,Q 100 (.call 149 [.t 99] [] []),Q 101 (.not (.t 100))] [3,6,8,101] [3,6,8,30,61,67,93,12702,12703,12902,12903,20302,20303])
 (.cond (.t 101) (.seq (.ak [QL 102 4 3,Q 103 (.call 219 [.t 102] [] [(2,20302),(3,20303)]),Qs 4 6 103,Qb 7 false] [6,7] [6,30,61,67,93,12702,12703,12902,12903,20302,20303])
 (.ret)) (.skip)))
 (.seq (.ak [QL 104 4 8,Qs 4 6 104,Qb 7 true] [6,7] [6,30,61,67,93,12702,12703,12902,12903,20302,20303])
 (.ret)))))))))))
def b4.m:Fn:={np:=3,body:=b4.b,res:=[.cell 6 true 4,.tmp 7]}
def b4.k(M:Nat→Option Body):Prop:=M 278=some (.code b4.m)∧aL.k M∧cd.k M∧cu.k M∧cH.k M∧eU.k M∧dY.k M
def cL.b:C:= .seq (.ak [Qv 3 0,Q 6 (.alloc [.int .i64 0,.int .i64 0,.aK 7,.aK 1]),Qb 7 false] [1,2,3,6] [3,6,11102,11103,15002,15003])
 (.seq (.ak [QL 10 4 3,Q 11 (.call 219 [.t 10] [] [(2,11102),(3,11103)]),Q 8 (.alloc [.int .i64 0,.int .i64 0,.aK 7,.aK 1]),Qs 4 8 11] [1,2,3,6,8] [3,6,8,11102,11103,15002,15003])
 (.seq (.ak [QL 12 4 3,Qm 13 1,Q 14 (.call 196 [.t 12,.t 13] [] []),Qm 9 14] [2,3,6,8,9] [3,6,8,11102,11103,15002,15003])
 (.seq (.seq (.ak [QL 15 4 3,Q 16 (.call 149 [.t 15] [] []),Q 17 (.not (.t 16)),Qm 18 17,Qg 19 (.mv (.t 9)) 18 false,Qg 20 (.bin .lss (.t 19) (kI 0)) 18 false,
   Q 21 (.pick (.t 18) (kB true) (.t 20)),Qm 22 21,Qg 23 (.load true 4 (.t 3)) 22 false,Qg 24 (.mv (.t 2)) 22 false,Qg 25 (.call 226 [.t 23,.t 24] [] []) 22 false,
   Qg 26 (.bin .geq (.t 25) (kI 0)) 22 false,Q 27 (.pick (.t 22) (kB true) (.t 26))] [2,3,6,8,9,27] [3,6,8,11102,11103,15002,15003])
 (.cond (.t 27) (.seq (.ak [QL 28 4 8,Qs 4 6 28,Qb 7 false] [6,7] [6,11102,11103,15002,15003])
 (.ret)) (.skip)))
 (.seq (.ak [Qf 29 2 8,Ql 30 29,Qm 31 9,Qm 32 2,Qa 33 7 30 31,Qf 34 1 33,Qs 1 34 32] [3,6,8,9] [3,6,8,11102,11103,15002,15003])
 (.seq (.gw [Qf 35 2 8,Ql 36 35,Qm 37 9,QL 38 4 3,Q 39 (.call 301 [.t 38] [] []),Qa 40 7 36 37,Qf 41 2 40,Qs 2 41 39] [[],[0],[],[],[3],lr 5,lr 6,lr 7] [3,6,8] [3,6,8,11102,11103,15002,15003])
 (.seq (.ak [Qf 42 1 3,Ql 43 42,Q 44 (.bin .add (.t 43) (kI 1)),Qf 45 1 8,Qs 1 45 44] [3,6,8] [3,6,8,11102,11103,15002,15003])
 (.seq (.seq (.ak [QL 46 4 8,Q 47 (.call 149 [.t 46] [] []),Q 48 (.not (.t 47))] [3,6,8,48] [3,6,8,11102,11103,15002,15003])
 (.cond (.t 48) (.seq (.ak [QL 49 4 3,Q 50 (.call 219 [.t 49] [] [(2,15002),(3,15003)]),Qs 4 6 50,Qb 7 false] [6,7] [6,11102,11103,15002,15003])
 (.ret)) (.skip)))
 (.seq (.ak [QL 51 4 8,Qs 4 6 51,Qb 7 true] [6,7] [6,11102,11103,15002,15003])
 (.ret)))))))))
def cL.m:Fn:={np:=3,body:=cL.b,res:=[.cell 6 true 4,.tmp 7]}
def cL.k(M:Nat→Option Body):Prop:=M 282=some (.code cL.m)∧aL.k M∧dC.k M∧cu.k M∧cH.k M∧dY.k M
def dK.b:C:= .seq (.ak [Qv 2 0,Q 4 (.alloc [.int .i64 0,.int .i64 0,.aK 7,.aK 1]),Qb 5 false] [1,2,4] [2,4,27,32,38,10902,10903,14300])
 (.seq (.ak [QL 8 4 2,Q 9 (.call 219 [.t 8] [] [(2,10902),(3,10903)]),Q 6 (.alloc [.int .i64 0,.int .i64 0,.aK 7,.aK 1]),Qs 4 6 9] [1,2,4,6] [2,4,6,27,32,38,10902,10903,14300])
 (.seq (.ak [QL 10 4 2,Qm 11 1,Q 12 (.call 196 [.t 10,.t 11] [] []),Qm 7 12] [1,2,4,6,7] [2,4,6,27,32,38,10902,10903,14300])
 (.seq (.seq (.ak [QL 13 4 2,Q 14 (.call 149 [.t 13] [] []),Q 15 (.not (.t 14)),Qm 16 15,Qg 17 (.mv (.t 7)) 16 false,Qg 18 (.bin .lss (.t 17) (kI 0)) 16 false,
   Q 19 (.pick (.t 16) (kB true) (.t 18)),Qm 20 19,Qg 21 (.bC 3 (.t 2)) 20 false,Qg 22 (.load false 1 (.t 21)) 20 false,Qg 23 (.len (.t 22)) 20 false,
   Qg 24 (.bin .geq (.t 23) (kI 20)) 20 false,Q 25 (.pick (.t 20) (kB true) (.t 24))] [1,2,4,6,7,25] [2,4,6,27,32,38,10902,10903,14300])
 (.cond (.t 25) (.seq (.ak [QL 26 4 6,Qs 4 4 26,Qb 5 false] [4,5] [4,27,32,38,10902,10903,14300])
 (.ret)) (.skip)))
 (.seq (.gw [Q 27 (.bM 7 0 [.int .i64 0,.str ⟨#[]⟩,.int .i64 0,.int .i64 0,.int .i64 0,.aK 4,.aK 1] []),Qf 28 2 6,Ql 29 28,Qm 30 7,
   Q 31 (.xh 7 (.t 29) none (some (.t 30)) none),Q 32 (.app 7 96 (.t 27) (.t 31)),Qf 33 2 6,Ql 34 33,Qm 35 7,Q 36 (.bin .add (.t 35) (kI 1)),
   Q 37 (.xh 7 (.t 34) (some (.t 36)) none none),Q 38 (.app 7 96 (.t 32) (.t 37)),Qf 39 2 6,Qs 1 39 38] [[],[],[1],[],[1,2,3],lr 5,[],[6],[],[8],[6,7,8,9],lr 11,lr 12,lr 13] [1,2,4,6] [2,4,6,27,32,38,10902,10903,14300])
 (.seq (.ak [Qf 40 3 2,Ql 41 40,Qm 42 1,Q 43 (.call 133 [.t 41,.t 42] [] [(0,14300)]),Qf 44 3 6,Qs 1 44 43] [4,6] [4,6,27,32,38,10902,10903,14300])
 (.seq (.ak [QL 45 4 6,Qs 4 4 45,Qb 5 true] [4,5] [4,27,32,38,10902,10903,14300])
 (.ret)))))))
def dK.m:Fn:={np:=2,body:=dK.b,res:=[.cell 4 true 4,.tmp 5]}
def dK.k(M:Nat→Option Body):Prop:=M 283=some (.code dK.m)∧b9.k M∧aL.k M∧dC.k M∧cu.k M
def eK.b:C:= .seq (.ak [Qv 3 0,Qv 5 2,Q 6 (.alloc [.int .i64 0,.int .i64 0,.aK 7,.aK 1]),Qb 7 false] [1,3,5,6] [3,5,6,11002,11003,12402,12403])
 (.seq (.ak [QL 9 4 3,Q 10 (.call 219 [.t 9] [] [(2,11002),(3,11003)]),Q 8 (.alloc [.int .i64 0,.int .i64 0,.aK 7,.aK 1]),Qs 4 8 10] [1,3,5,6,8] [3,5,6,8,11002,11003,12402,12403])
 (.seq (.ak [Qf 11 2 8,Ql 12 11,Qm 13 1,QL 14 7 5,Qa 15 7 12 13,Qs 7 15 14] [3,6,8] [3,6,8,11002,11003,12402,12403])
 (.seq (.ak [Qf 16 1 3,Ql 17 16,Q 18 (.bin .add (.t 17) (kI 1)),Qf 19 1 8,Qs 1 19 18] [3,6,8] [3,6,8,11002,11003,12402,12403])
 (.seq (.seq (.ak [QL 20 4 8,Q 21 (.call 149 [.t 20] [] []),Q 22 (.not (.t 21))] [3,6,8,22] [3,6,8,11002,11003,12402,12403])
 (.cond (.t 22) (.seq (.ak [QL 23 4 3,Q 24 (.call 219 [.t 23] [] [(2,12402),(3,12403)]),Qs 4 6 24,Qb 7 false] [6,7] [6,11002,11003,12402,12403])
 (.ret)) (.skip)))
 (.seq (.ak [QL 25 4 8,Qs 4 6 25,Qb 7 true] [6,7] [6,11002,11003,12402,12403])
 (.ret))))))
def eK.m:Fn:={np:=3,body:=eK.b,res:=[.cell 6 true 4,.tmp 7]}
def eK.k(M:Nat→Option Body):Prop:=M 302=some (.code eK.m)∧aL.k M∧cu.k M
def dI.b:C:= .seq (.ak [Qv 5 0,Q 10 (.alloc [.int .i64 0,.int .i64 0,.aK 7,.aK 1]),Qb 11 false] [1,2,3,4,5,10] [5,10,13102,13103,14902,14903,15302,15303])
 (.seq (.ak [QL 15 4 5,Qm 16 1,Q 17 (.call 196 [.t 15,.t 16] [] []),Qm 12 17] [2,3,4,5,10,12] [5,10,13102,13103,14902,14903,15302,15303])
 (.seq (.seq (.ak [QL 18 4 5,Q 19 (.call 149 [.t 18] [] []),Q 20 (.not (.t 19)),Qm 21 20,Qg 22 (.load true 4 (.t 5)) 21 false,Qg 23 (.mv (.t 2)) 21 false,
   Qg 24 (.call 300 [.t 22,.t 23] [] []) 21 false,Q 25 (.pick (.t 21) (kB true) (.t 24)),Qm 26 25,Qg 27 (.mv (.t 12)) 26 false,Qg 28 (.bin .lss (.t 27) (kI 0)) 26 false,
   Q 29 (.pick (.t 26) (kB true) (.t 28))] [2,3,4,5,10,12,29] [5,10,13102,13103,14902,14903,15302,15303])
 (.cond (.t 29) (.seq (.ak [QL 30 4 5,Q 31 (.call 219 [.t 30] [] [(2,13102),(3,13103)]),Qs 4 10 31,Qb 11 false] [10,11] [10,13102,13103,14902,14903,15302,15303])
 (.ret)) (.skip)))
 (.seq (.gw [Qf 33 2 5,Ql 34 33,Qm 35 12,Qa 36 7 34 35,QL 37 7 36,Qm 38 2,Qm 39 3,Qm 40 4,QL 41 4 5,Q 42 (.call 301 [.t 41] [] []),
   Q 43 (.call 81 [.t 37,.t 38,.t 39,.t 40,.t 42] [] []),Qm 32 43,Qx 44 0 32,Qx 45 1 32,
   Q 13 (.alloc [.int .i64 0,.str ⟨#[]⟩,.int .i64 0,.int .i64 0,.int .i64 0,.aK 4,.aK 1]),Qs 7 13 44,Qm 14 45] [[],[0],[],[0,1,2],lr 4,[],[],[],[],[8],lr 10,lr 11,lr 12,lr 12,[],lr 13++[14],lr 16] [5,10,12,13,14] [5,10,13,13102,13103,14902,14903,15302,15303])
 (.seq (.seq (.ak [Qm 46 14,Q 47 (.not (.t 46))] [5,10,12,13,47] [5,10,13,13102,13103,14902,14903,15302,15303])
 (.cond (.t 47) (.seq (.ak [QL 48 4 5,Q 49 (.call 219 [.t 48] [] [(2,14902),(3,14903)]),Qs 4 10 49,Qb 11 false] [10,11] [10,13102,13103,14902,14903,15302,15303])
 (.ret)) (.skip)))
 (.seq (.ak [QL 50 4 5,Qm 51 12,QL 52 7 13,Q 53 (.call 302 [.t 50,.t 51,.t 52] [] [(2,15302),(3,15303)]),Qx 54 0 53,Qx 55 1 53,Qs 4 10 54,Qm 11 55] [10,11] [10,13102,13103,14902,14903,15302,15303])
 (.ret))))))
def dI.m:Fn:={np:=5,body:=dI.b,res:=[.cell 10 true 4,.tmp 11]}
def dI.k(M:Nat→Option Body):Prop:=M 279=some (.code dI.m)∧eH.k M∧aL.k M∧dC.k M∧cu.k M∧eU.k M∧dY.k M∧eK.k M
def dA.b:C:= .seq (.ak [Qv 4 0,Q 8 (.alloc [.int .i64 0,.int .i64 0,.aK 7,.aK 1]),Qb 9 false] [1,2,3,4,8] [4,8,12402,12403,14102,14103,14502,14503])
 (.seq (.ak [QL 13 4 4,Qm 14 1,Q 15 (.call 196 [.t 13,.t 14] [] []),Qm 10 15] [2,3,4,8,10] [4,8,12402,12403,14102,14103,14502,14503])
 (.seq (.seq (.ak [QL 16 4 4,Q 17 (.call 149 [.t 16] [] []),Q 18 (.not (.t 17)),Qm 19 18,Qg 20 (.mv (.t 10)) 19 false,Qg 21 (.bin .lss (.t 20) (kI 0)) 19 false,
   Q 22 (.pick (.t 19) (kB true) (.t 21))] [2,3,4,8,10,22] [4,8,12402,12403,14102,14103,14502,14503])
 (.cond (.t 22) (.seq (.ak [QL 23 4 4,Q 24 (.call 219 [.t 23] [] [(2,12402),(3,12403)]),Qs 4 8 24,Qb 9 false] [8,9] [8,12402,12403,14102,14103,14502,14503])
 (.ret)) (.skip)))
 (.seq (.gw [Qf 26 2 4,Ql 27 26,Qm 28 10,Qa 29 7 27 28,QL 30 7 29,Qm 31 2,Qm 32 3,QL 33 4 4,Q 34 (.call 301 [.t 33] [] []),Q 35 (.call 84 [.t 30,.t 31,.t 32,.t 34] [] []),Qm 25 35,
   Qx 36 0 25,Qx 37 1 25,Q 11 (.alloc [.int .i64 0,.str ⟨#[]⟩,.int .i64 0,.int .i64 0,.int .i64 0,.aK 4,.aK 1]),Qs 7 11 36,Qm 12 37] [[],[0],[],[0,1,2],lr 4,[],[],[],[7],lr 9,lr 10,lr 11,lr 11,[],lr 12++[13],lr 15] [4,8,10,11,12] [4,8,11,12402,12403,14102,14103,14502,14503])
 (.seq (.seq (.ak [Qm 38 12,Q 39 (.not (.t 38))] [4,8,10,11,39] [4,8,11,12402,12403,14102,14103,14502,14503])
 (.cond (.t 39) (.seq (.ak [QL 40 4 4,Q 41 (.call 219 [.t 40] [] [(2,14102),(3,14103)]),Qs 4 8 41,Qb 9 false] [8,9] [8,12402,12403,14102,14103,14502,14503])
 (.ret)) (.skip)))
 (.seq (.ak [QL 42 4 4,Qm 43 10,QL 44 7 11,Q 45 (.call 302 [.t 42,.t 43,.t 44] [] [(2,14502),(3,14503)]),Qx 46 0 45,Qx 47 1 45,Qs 4 8 46,Qm 9 47] [8,9] [8,12402,12403,14102,14103,14502,14503])
 (.ret))))))
def dA.m:Fn:={np:=4,body:=dA.b,res:=[.cell 8 true 4,.tmp 9]}
def dA.k(M:Nat→Option Body):Prop:=M 280=some (.code dA.m)∧dS.k M∧aL.k M∧dC.k M∧cu.k M∧dY.k M∧eK.k M
def dB.b:C:= .seq (.ak [Qv 3 0,Q 6 (.alloc [.int .i64 0,.int .i64 0,.aK 7,.aK 1]),Qb 7 false] [1,2,3,6] [3,6,11302,11303])
 (.seq (.ak [QL 12 4 3,Q 13 (.call 219 [.t 12] [] [(2,11302),(3,11303)]),Q 8 (.alloc [.int .i64 0,.int .i64 0,.aK 7,.aK 1]),Qs 4 8 13] [1,2,3,6,8] [3,6,8,11302,11303])
 (.seq (.ak [QL 14 4 3,Qm 15 1,Q 16 (.call 196 [.t 14,.t 15] [] []),Qm 9 16] [2,3,6,8,9] [3,6,8,11302,11303])
 (.seq (.seq (.ak [QL 17 4 3,Q 18 (.call 149 [.t 17] [] []),Q 19 (.not (.t 18)),Qm 20 19,Qg 21 (.mv (.t 9)) 20 false,Qg 22 (.bin .lss (.t 21) (kI 0)) 20 false,
   Q 23 (.pick (.t 20) (kB true) (.t 22))] [2,3,6,8,9,23] [3,6,8,11302,11303])
 (.cond (.t 23) (.seq (.ak [QL 24 4 8,Qs 4 6 24,Qb 7 false] [6,7] [6,11302,11303])
 (.ret)) (.skip)))
 (.seq (.ak [Qf 26 2 3,Ql 27 26,Qm 28 9,Qa 29 7 27 28,QL 30 7 29,Qm 31 2,Q 32 (.call 86 [.t 30,.t 31] [] []),Qm 25 32,Qx 33 0 25,Qx 34 1 25,
   Q 10 (.alloc [.int .i64 0,.str ⟨#[]⟩,.int .i64 0,.int .i64 0,.int .i64 0,.aK 4,.aK 1]),Qs 7 10 33,Qm 11 34] [6,8,9,10,11] [6,8,10,11302,11303])
 (.seq (.seq (.ak [Qm 35 11,Q 36 (.not (.t 35))] [6,8,9,10,36] [6,8,10,11302,11303])
 (.cond (.t 36) (.seq (.ak [QL 37 4 8,Qs 4 6 37,Qb 7 false] [6,7] [6,11302,11303])
 (.ret)) (.skip)))
 (.seq (.ak [Qf 38 2 8,Ql 39 38,Qm 40 9,QL 41 7 10,Qa 42 7 39 40,Qs 7 42 41] [6,8] [6,8,11302,11303])
 (.seq (.ak [QL 43 4 8,Qs 4 6 43,Qb 7 true] [6,7] [6,11302,11303])
 (.ret))))))))
def dB.m:Fn:={np:=3,body:=dB.b,res:=[.cell 6 true 4,.tmp 7]}
def dB.k(M:Nat→Option Body):Prop:=M 281=some (.code dB.m)∧du.k M∧aL.k M∧dC.k M∧cu.k M
def fP.l0:C:= .seq (.seq (.ak [Qm 8 4,Qm 9 0,Q 10 (.len (.t 9)),Q 11 (.bin .lss (.t 8) (.t 10)),Qm 12 11,Qg 13 (.mv (.t 4)) 12 true,Qg 14 (.bin .lss (.t 13) (kI 4000)) 12 true,
    Q 15 (.pick (.t 12) (.t 14) (kB false))] [0,3,4,15] [])
 (.cond (.t 15) (.skip) (.exit 0)))
 (.seq (.block 1 (.ak [Qm 18 3,Q 19 (.bin .mul (.t 18) (kI 131)),Qm 20 0,Qm 21 4,Qa 22 1 20 21,Ql 23 22,Q 24 (.qY .i64 (.t 23)),Q 25 (.bin .add (.t 19) (.t 24)),Q 26 (.bin .add (.t 25) (kI 7)),
   Q 27 (.bin .and (.t 26) (kI 1073741823)),Qm 3 27] [0,3,4] []))
 (.ak [Qm 16 4,Q 17 (.bin .add (.t 16) (kI 1)),Qm 4 17] [0,3,4] []))
def fP.b:C:= .seq (.ak [Q 2 (.np)] [0] [])
 (.seq (.ak [Qm 5 0,Q 6 (.len (.t 5)),Q 7 (.bin .add (kI 77201) (.t 6)),Qm 3 7] [0,3] [])
 (.seq (.seq (.ak [Qi 4 0] [0,3,4] [])
 (.block 0 (.loop fP.l0)))
 (.seq (.ak [Qm 28 0,Qm 29 3,Q 30 (.build [.aK 1,.int .i64 0,.int .i64 0] [(0,1,.t 28),(2,1,.t 29)]),Qv 31 30,Qm 2 31] [2] [31])
 (.ret))))
def fP.m:Fn:={np:=1,body:=fP.b,res:=[.tmp 2]}
def fP.k(M:Nat→Option Body):Prop:=M 124=some (.code fP.m)
def fk.b:C:= .seq (.ak [Qi 2 0] [0] [0])
 (.seq (.ak [Qm 4 0,Qm 5 0,Q 6 (.j5 (.t 5)),Qf 7 2 6,Ql 8 7,Q 9 (.bin .mul (.t 8) (kI 6364136223846793005)),Q 10 (.bin .add (.t 9) (kI 1442695040888963407)),Q 11 (.j5 (.t 4)),
   Qf 12 2 11,Qs 1 12 10] [0] [0])
 (.seq (.gw [Qm 13 0,Q 14 (.j5 (.t 13)),Qf 15 2 14,Ql 16 15,Q 17 (.bin .shr (.t 16) (.k (.int .u64 33))),Qm 18 0,Q 19 (.j5 (.t 18)),Qf 20 2 19,Ql 21 20,
   Q 22 (.bin .shr (.t 21) (.k (.int .u64 45))),Q 23 (.bin .xor (.t 17) (.t 22)),Q 24 (.bin .and (.t 23) (kI 255)),Qm 3 24] [[],[0],[0,1],[0,1,2],lr 4,[],[5],[5,6],[5,6,7],[5,6,7,8],lr 10,lr 11,lr 12] [0,3] [0])
 (.seq (.seq (.gw [Qm 25 0,Q 26 (.j5 (.t 25)),Qf 27 1 26,Ql 28 27,Qm 29 0,Q 30 (.j5 (.t 29)),Qf 31 0 30,Ql 32 31,Q 33 (.len (.t 32)),Q 34 (.bin .lss (.t 28) (.t 33))] [[],[0],[0,1],[0,1,2],[],[4],[4,5],[4,5,6],[4,5,6,7],lr 9] [0,3,34] [0])
 (.cond (.t 34) (.seq (.gw [Qm 35 3,Qm 36 0,Q 37 (.j5 (.t 36)),Qf 38 0 37,Ql 39 38,Qm 40 0,Q 41 (.j5 (.t 40)),Qf 42 1 41,Ql 43 42,Qa 44 1 39 43,Ql 45 44,Q 46 (.qY .i64 (.t 45)),
   Q 47 (.bin .add (.t 35) (.t 46)),Q 48 (.bin .and (.t 47) (kI 255)),Qm 3 48] [[],[],[1],[1,2],[1,2,3],[],[5],[5,6],[5,6,7],[1,2,3,4,5,6,7,8],[1,2,3,4,5,6,7,8,9],[1,2,3,4,5,6,7,8,9,10],lr 12,lr 13,lr 14] [0,3] [0])
 (.ak [Qm 49 0,Qm 50 0,Q 51 (.j5 (.t 50)),Qf 52 1 51,Ql 53 52,Q 54 (.bin .add (.t 53) (kI 1)),Q 55 (.j5 (.t 49)),Qf 56 1 55,Qs 1 56 54] [3] [0])) (.skip)))
 (.seq (.ak [Qm 57 3,Qm 2 57] [2] [0])
 (.ret)))))
def fk.m:Fn:={np:=1,body:=fk.b,res:=[.tmp 2]}
def fk.k(M:Nat→Option Body):Prop:=M 131=some (.code fk.m)
def bu.b:C:= .seq (.ak [Qi 4 0] [0,1] [0])
 (.seq (.seq (.ak [Qm 9 1,Q 10 (.bin .leq (.t 9) (kI 0))] [0,1,10] [0])
 (.cond (.t 10) (.seq (.ak [Qi 4 0] [4] [0])
 (.ret)) (.skip)))
 (.seq (.seq (.ak [Qm 11 1,Q 12 (.bin .leq (.t 11) (kI 256))] [0,1,12] [0])
 (.cond (.t 12) (.seq (.ak [Qm 13 0,Q 14 (.call 131 [.t 13] [0] []),Qm 15 1,Q 16 (.bin .rem (.t 14) (.t 15)),Qm 4 16] [4] [0])
 (.ret)) (.skip)))
 (.seq (.ak [Qm 17 0,Q 18 (.call 131 [.t 17] [0] []),Qm 5 18] [0,1,5] [0])
 (.seq (.ak [Qm 19 0,Q 20 (.call 131 [.t 19] [0] []),Qm 6 20] [0,1,5,6] [0])
 (.seq (.ak [Qm 21 0,Q 22 (.call 131 [.t 21] [0] []),Qm 7 22] [0,1,5,6,7] [0])
 (.seq (.ak [Qm 23 0,Q 24 (.call 131 [.t 23] [0] []),Qm 8 24] [1,5,6,7,8] [0])
 (.seq (.ak [Qm 25 5,Q 26 (.bin .mul (.t 25) (kI 16777216)),Qm 27 6,Q 28 (.bin .mul (.t 27) (kI 65536)),Q 29 (.bin .add (.t 26) (.t 28)),Qm 30 7,Q 31 (.bin .mul (.t 30) (kI 256)),
   Q 32 (.bin .add (.t 29) (.t 31)),Qm 33 8,Q 34 (.bin .add (.t 32) (.t 33)),Qm 35 1,Q 36 (.bin .rem (.t 34) (.t 35)),Qm 4 36] [4] [0])
 (.ret))))))))
def bu.m:Fn:={np:=2,body:=bu.b,res:=[.tmp 4]}
def bu.k(M:Nat→Option Body):Prop:=M 125=some (.code bu.m)∧fk.k M
def eG.b:C:= .seq (.ak [Q 4 (.mv (.k (.str ⟨#[]⟩)))] [0,1] [0])
 (.seq (.ak [Qm 5 1,Qm 6 0,Qm 7 1,Q 8 (.len (.t 7)),Q 9 (.call 125 [.t 6,.t 8] [0] []),Qa 10 1 5 9,Ql 11 10,Qm 4 11] [4] [0])
 (.ret))
def eG.m:Fn:={np:=2,body:=eG.b,res:=[.tmp 4]}
def eG.k(M:Nat→Option Body):Prop:=M 185=some (.code eG.m)∧bu.k M
def gF.b:C:= .seq (.ak [Q 2 (.mv (.k (.str ⟨#[]⟩)))] [0] [0])
 (.seq (.ak [Qm 3 0,
   Q 4 (.vq 1 6 [.str ⟨#[]⟩] [(0,.k (.str ⟨#[104,101,108,108,111]⟩)),(1,.k (.str ⟨#[104,105,10]⟩)),(2,.k (.str ⟨#[]⟩)),(3,.k (.str ⟨#[116,101,120,116,32,111,102,32,105,116]⟩)),(4,.k (.str ⟨#[0,255]⟩)),(5,.k (.str ⟨#[97,32,98]⟩))]),
   Q 5 (.call 185 [.t 3,.t 4] [0] []),Qm 2 5] [2] [0])
 (.ret))
def gF.m:Fn:={np:=1,body:=gF.b,res:=[.tmp 2]}
def gF.k(M:Nat→Option Body):Prop:=M 174=some (.code gF.m)∧eG.k M
def cV.l0:C:= .seq (.seq (.ak [Qm 11 5,Q 12 (.bin .lss (.t 11) (kI 12))] [3,4,5,12] [10,19,10700])
 (.cond (.t 12) (.skip) (.exit 0)))
 (.seq (.block 1 (.ak [Qm 15 4,Qm 16 3,Q 17 (.call 125 [.t 16,kI 10000] [0] []),Q 18 (.bM 1 1 [.int .i64 0] [(0,.t 17)]),Q 19 (.app 1 8 (.t 15) (.t 18)),Qm 4 19] [3,4,5] [10,19,10700]))
 (.ak [Qm 13 5,Q 14 (.bin .add (.t 13) (kI 1)),Qm 5 14] [3,4,5] [10,19,10700]))
def cV.b:C:= .seq (.ak [Q 2 (.nil 1)] [0] [])
 (.seq (.ak [Qm 6 0,Q 7 (.call 124 [.t 6] [] [(0,10700)]),Qm 3 7] [3] [10700])
 (.seq (.ak [Qm 8 3,Q 9 (.call 131 [.t 8] [0] [])] [3] [10700])
 (.seq (.ak [Q 10 (.bM 1 0 [.int .i64 0] []),Qm 4 10] [3,4] [10,19,10700])
 (.seq (.seq (.ak [Qi 5 0] [3,4,5] [10,19,10700])
 (.block 0 (.loop cV.l0)))
 (.seq (.ak [Qm 20 4,Qm 2 20] [2] [2,10,19])
 (.ret))))))
def cV.m:Fn:={np:=1,body:=cV.b,res:=[.tmp 2]}
def cV.k(M:Nat→Option Body):Prop:=M 40=some (.code cV.m)∧fP.k M∧bu.k M∧fk.k M
def lF.b:C:= .seq (.ak [Qb 2 false] [0] [])
 (.seq (.ak [Qm 3 0,Q 4 (.len (.t 3)),Q 5 (.bin .gtr (.t 4) (kI 1048576)),Qm 2 5] [2] [])
 (.ret))
def lF.m:Fn:={np:=1,body:=lF.b,res:=[.tmp 2]}
def lF.k(M:Nat→Option Body):Prop:=M 36=some (.code lF.m)
def iM.b:C:= .seq (.ak [Qb 4 false] [0,1] [0])
 (.seq (.ak [Qm 5 0,Qm 6 1,Q 7 (.call 125 [.t 5,.t 6] [0] []),Q 8 (.bin .eql (.t 7) (kI 0)),Qm 4 8] [4] [0])
 (.ret))
def iM.m:Fn:={np:=2,body:=iM.b,res:=[.tmp 4]}
def iM.k(M:Nat→Option Body):Prop:=M 175=some (.code iM.m)∧bu.k M
def fI.b:C:= .seq (.ak [Q 2 (.alloc [.int .i64 0,.int .i64 0,.aK 7,.aK 1])] [0,2] [2])
 (.seq (.ak [Qm 3 0,Q 4 (.build [.int .i64 0,.int .i64 0,.aK 7,.aK 1] [(0,1,.t 3)]),Qs 4 2 4] [2] [2])
 (.ret))
def fI.m:Fn:={np:=1,body:=fI.b,res:=[.cell 2 true 4]}
def fI.k(M:Nat→Option Body):Prop:=M 113=some (.code fI.m)
def bc.br:C:= .seq (.ak [Qm 59 10,Q 60 (.bin .eql (.t 59) (kI 0)),Qm 61 60,Qg 62 (.mv (.t 13)) 61 false,Qg 63 (.bin .eql (.t 62) (kI 0)) 61 false,Q 64 (.pick (.t 61) (kB true) (.t 63)),Qm 58 64] [0,2,3,5,8,9,10,11,13,58] [0,5,8,15502,15503])
 (.cond (.t 58) (.shut [15502,15503] (.gw [QL 66 4 5,Qm 67 3,Qm 68 9,Q 69 (.bin .add (.t 67) (.t 68)),Qm 70 0,
   Q 71 (.vq 1 3 [.str ⟨#[]⟩] [(0,.k (.str ⟨#[105,110,98,111,120]⟩)),(1,.k (.str ⟨#[119,111,114,107]⟩)),(2,.k (.str ⟨#[111,108,100]⟩))]),
   Q 72 (.call 185 [.t 70,.t 71] [0] []),Q 73 (.call 278 [.t 66,.t 69,.t 72] [] [(2,15502),(3,15503)]),Qm 65 73,Qx 74 0 65,Qx 75 1 65,Qs 4 5 74] [[],[],[],[1,2],[],[],[4,5],lr 7,lr 8,lr 9,lr 9,lr 10] [0,2,3,5,8,9] [0,5,8,15502,15503])) (.seq (.ak [Qm 77 13,Q 78 (.bin .lss (.t 77) (kI 6)),Qm 76 78] [0,2,3,5,8,9,10,11,13,76] [0,5,8,15502,15503])
 (.cond (.t 76) (.shut [15502,15503] (.gw [QL 80 4 5,Qm 81 10,Qm 82 3,Qm 83 9,Q 84 (.bin .add (.t 82) (.t 83)),Qm 85 0,Q 86 (.call 125 [.t 85,kI 8] [0] []),Qm 87 0,Q 88 (.call 174 [.t 87] [0] []),
   Q 89 (.call 279 [.t 80,.t 81,.t 84,.t 86,.t 88] [] [(2,15502),(3,15503)]),Qm 79 89,Qx 90 0 79,Qx 91 1 79,Qs 4 5 90] [[],[],[],[],[2,3],[],[5],[],[5,6,7],lr 9,lr 10,lr 11,lr 11,lr 12] [0,2,3,5,8,9] [0,5,8,15502,15503])) (.seq (.ak [Qm 93 13,Q 94 (.bin .lss (.t 93) (kI 9)),Qm 92 94] [0,2,3,5,8,9,10,11,13,92] [0,5,8,15502,15503])
 (.cond (.t 92) (.shut [15502,15503] (.gw [QL 96 4 5,Qm 97 10,Qm 98 11,Qm 99 0,Q 100 (.call 125 [.t 99,kI 8] [0] []),Q 101 (.call 280 [.t 96,.t 97,.t 98,.t 100] [] [(2,15502),(3,15503)]),Qm 95 101,Qx 102 0 95,
   Qx 103 1 95,Qs 4 5 102] [[],[],[],[],[3],lr 5,lr 6,lr 7,lr 7,lr 8] [0,2,3,5,8,9] [0,5,8,15502,15503])) (.seq (.ak [Qm 105 13,Q 106 (.bin .eql (.t 105) (kI 9)),Qm 104 106] [0,2,3,5,8,9,10,11,13,104] [0,5,8,15502,15503])
 (.cond (.t 104) (.shut [15502,15503] (.ak [QL 108 4 5,Qm 109 10,Qm 110 11,Q 111 (.call 281 [.t 108,.t 109,.t 110] [] [(2,15502),(3,15503)]),Qm 107 111,Qx 112 0 107,Qx 113 1 107,Qs 4 5 112] [0,2,3,5,8,9] [0,5,8,15502,15503])) (.seq (.ak [Qm 115 13,Q 116 (.bin .eql (.t 115) (kI 10)),Qm 114 116] [0,2,3,5,8,9,10,114] [0,5,8,15502,15503])
 (.cond (.t 114) (.shut [15502,15503] (.gw [QL 118 4 5,Qm 119 10,Qm 120 0,
   Q 121 (.vq 1 4 [.str ⟨#[]⟩] [(0,.k (.str ⟨#[105,110,98,111,120]⟩)),(1,.k (.str ⟨#[119,111,114,107]⟩)),(2,.k (.str ⟨#[110,101,119]⟩)),(3,.k (.str ⟨#[111,116,104,101,114]⟩))]),
   Q 122 (.call 185 [.t 120,.t 121] [0] []),Q 123 (.call 282 [.t 118,.t 119,.t 122] [] [(2,15502),(3,15503)]),Qm 117 123,Qx 124 0 117,Qx 125 1 117,Qs 4 5 124] [[],[],[],[],[2,3],lr 5,lr 6,lr 7,lr 7,lr 8] [0,2,3,5,8,9] [0,5,8,15502,15503])) (.seq (.ak [Qm 50 0,Q 51 (.call 175 [.t 50,kI 3] [0] [])] [0,2,3,5,8,9,10,51] [0,5,8,15502,15503])
 (.cond (.t 51) (.shut [15502,15503] (.ak [QL 53 4 5,Qm 54 10,Q 55 (.call 283 [.t 53,.t 54] [] [(2,15502),(3,15503)]),Qm 52 55,Qx 56 0 52,Qx 57 1 52,Qs 4 5 56] [0,2,3,5,8,9] [0,5,8,15502,15503])) (.skip))))))))))))
def bc.hd:C:= .seq (.seq (.ak [Qf 19 2 5,Ql 20 19,Q 21 (.len (.t 20)),Q 22 (.bin .gtr (.t 21) (kI 0))] [0,2,3,5,8,9,10,11,22] [0,5,8,15502,15503])
 (.cond (.t 22) (.seq (.gw [Qf 23 2 5,Ql 24 23,Qm 25 0,Qf 26 2 5,Ql 27 26,Q 28 (.len (.t 27)),Q 29 (.call 125 [.t 25,.t 28] [0] []),Qa 30 7 24 29,QL 31 7 30,
   Q 12 (.alloc [.int .i64 0,.str ⟨#[]⟩,.int .i64 0,.int .i64 0,.int .i64 0,.aK 4,.aK 1]),Qs 7 12 31] [[],[0],[],[],[3],[3,4],[2,3,4,5],lr 7,lr 8,[],lr 10] [0,2,3,5,8,9,11,12] [0,5,8,12,15502,15503])
 (.seq (.ak [Qf 32 0 12,Ql 33 32,Qm 10 33] [0,2,3,5,8,9,10,11,12] [0,5,8,12,15502,15503])
 (.seq (.ak [Qf 34 5 12,Ql 35 34,Q 36 (.len (.t 35)),Q 37 (.bin .gtr (.t 36) (kI 0))] [0,2,3,5,8,9,10,11,12,37] [0,5,8,12,15502,15503])
 (.cond (.t 37) (.gw [Qf 38 5 12,Ql 39 38,Qm 40 0,Qf 41 5 12,Ql 42 41,Q 43 (.len (.t 42)),Q 44 (.call 125 [.t 40,.t 43] [0] []),Qa 45 4 39 44,Qf 46 0 45,Ql 47 46,Qm 11 47] [[],[0],[],[],[3],[3,4],[2,3,4,5],lr 7,lr 8,lr 9,lr 10] [0,2,3,5,8,9,10,11] [0,5,8,15502,15503]) (.skip))))) (.skip)))
 (.seq (.ak [Qm 48 0,Q 49 (.call 125 [.t 48,kI 12] [0] []),Qm 13 49] [0,2,3,5,8,9,10,11,13] [0,5,8,15502,15503])
 (.block 2 bc.br))
def bc.l0:C:= .seq (.seq (.ak [Qm 14 9,Qm 15 2,Q 16 (.bin .lss (.t 14) (.t 15))] [0,2,3,5,8,9,16] [0,5,8,15502,15503])
 (.cond (.t 16) (.skip) (.exit 0)))
 (.seq (.block 1 (.seq (.ak [Qi 10 0] [0,2,3,5,8,9,10] [0,5,8,15502,15503])
 (.seq (.ak [Qi 11 0] [0,2,3,5,8,9,10,11] [0,5,8,15502,15503])
 bc.hd)))
 (.ak [Qm 17 9,Q 18 (.bin .add (.t 17) (kI 1)),Qm 9 18] [0,2,3,5,8,9] [0,5,8,15502,15503]))
def bc.b:C:= .seq (.ak [Qv 5 1,Q 8 (.alloc [.int .i64 0,.int .i64 0,.aK 7,.aK 1])] [0,2,3,5,8] [0,5,8,15502,15503])
 (.seq (.seq (.ak [Qi 9 0] [0,2,3,5,8,9] [0,5,8,15502,15503])
 (.block 0 (.loop bc.l0)))
 (.seq (.ak [QL 126 4 5,Qs 4 8 126] [8] [0,8,15502,15503])
 (.ret)))
def bc.m:Fn:={np:=4,body:=bc.b,res:=[.cell 8 true 4]}
def bc.k(M:Nat→Option Body):Prop:=M 244=some (.code bc.m)∧bu.k M∧gF.k M∧iM.k M∧eG.k M∧b4.k M∧dI.k M∧dA.k M∧dB.k M∧cL.k M∧dK.k M
def iw.b:C:= .seq (.ak [Qv 2 0,Qv 3 1,Q 4 (.alloc [.int .i64 0,.int .i64 0,.int .i64 0])] [2,3,4] [2,3,4])
 (.seq (.seq (.ak [Qf 5 1 3,QL 6 2 5,Qf 7 1 2,QL 8 2 7,Q 9 (.call 275 [.t 6,.t 8] [] []),Qm 10 9,Qg 11 (.bC 1 (.t 2)) 10 false,Qg 12 (.load true 2 (.t 11)) 10 false,
   Qg 13 (.bC 1 (.t 3)) 10 false,Qg 14 (.load true 2 (.t 13)) 10 false,Qg 15 (.call 275 [.t 12,.t 14] [] []) 10 false,Qg 16 (.not (.t 15)) 10 false,
   Qg 17 (.mv (.t 16)) 10 false,Qg 18 (.bC 0 (.t 3)) 17 true,Qg 19 (.load false 1 (.t 18)) 17 true,Qg 20 (.bC 0 (.t 2)) 17 true,Qg 21 (.load false 1 (.t 20)) 17 true,
   Qg 22 (.bin .gtr (.t 19) (.t 21)) 17 true,Qg 23 (.pick (.t 17) (.t 22) (kB false)) 10 false,Q 24 (.pick (.t 10) (kB true) (.t 23))] [2,3,4,24] [2,3,4])
 (.cond (.t 24) (.seq (.ak [QL 25 3 3,Qs 3 4 25] [4] [4])
 (.ret)) (.skip)))
 (.seq (.ak [QL 26 3 2,Qs 3 4 26] [4] [4])
 (.ret)))
def iw.m:Fn:={np:=2,body:=iw.b,res:=[.cell 4 true 3]}
def iw.k(M:Nat→Option Body):Prop:=M 485=some (.code iw.m)∧gm.k M
def eC.l0:C:= .seq (.seq (.ak [Qm 8 6,Qm 9 0,Q 10 (.len (.t 9)),Q 11 (.bin .lss (.t 8) (.t 10)),Qm 12 11,Qg 13 (.mv (.t 6)) 12 true,Qg 14 (.mv (.t 1)) 12 true,Qg 15 (.len (.t 14)) 12 true,
    Qg 16 (.bin .lss (.t 13) (.t 15)) 12 true,Q 17 (.pick (.t 12) (.t 16) (kB false))] [0,1,5,6,17] [7,31])
 (.cond (.t 17) (.skip) (.exit 0)))
 (.seq (.block 1 (.gw [Qm 20 5,Qm 21 0,Qm 22 6,Qa 23 3 21 22,QL 24 3 23,Qm 25 1,Qm 26 6,Qa 27 3 25 26,QL 28 3 27,Q 29 (.call 485 [.t 24,.t 28] [] []),
   Q 30 (.bM 3 1 [.int .i64 0,.int .i64 0,.int .i64 0] [(0,.t 29)]),Q 31 (.app 3 24 (.t 20) (.t 30)),Qm 5 31] [[],[],[],[1,2],[1,2,3],[],[],[5,6],[5,6,7],[1,2,3,4,5,6,7,8],[1,2,3,4,5,6,7,8,9],lr 11,lr 12] [0,1,5,6] [7,31]))
 (.ak [Qm 18 6,Q 19 (.bin .add (.t 18) (kI 1)),Qm 6 19] [0,1,5,6] [7,31]))
def eC.b:C:= .seq (.ak [Q 4 (.nil 3)] [0,1] [])
 (.seq (.ak [Q 7 (.bM 3 0 [.int .i64 0,.int .i64 0,.int .i64 0] []),Qm 5 7] [0,1,5] [7,31])
 (.seq (.seq (.ak [Qi 6 0] [0,1,5,6] [7,31])
 (.block 0 (.loop eC.l0)))
 (.seq (.ak [Qm 32 5,Qm 4 32] [4] [4,7,31])
 (.ret))))
def eC.m:Fn:={np:=2,body:=eC.b,res:=[.tmp 4]}
def eC.k(M:Nat→Option Body):Prop:=M 470=some (.code eC.m)∧iw.k M
def fL.b:C:= .seq (.ak [Qv 2 0,Qv 3 1,Q 4 (.alloc [.int .i64 0,.int .i64 0,.aK 3,.str ⟨#[]⟩])] [2,3,4] [2,3,4,11102,12300])
 (.seq (.seq (.ak [Qf 5 0 2,Ql 6 5,Qf 7 0 3,Ql 8 7,Q 9 (.bin .neq (.t 6) (.t 8))] [2,3,4,9] [2,3,4,11102,12300])
 (.cond (.t 9) (.seq (.ak [QL 10 4 2,Q 11 (.call 233 [.t 10] [] [(2,11102)]),Qs 4 4 11] [4] [4,11102,12300])
 (.ret)) (.skip)))
 (.seq (.gw [Qf 12 0 2,Ql 13 12,Qf 14 1 2,Ql 15 14,Qf 16 1 3,Ql 17 16,Q 18 (.max (.t 15) (.t 17)),Qf 19 2 2,Ql 20 19,Qf 21 2 3,Ql 22 21,
   Q 23 (.call 470 [.t 20,.t 22] [] [(0,12300)]),Qf 24 3 2,Ql 25 24,Qf 26 3 3,Ql 27 26,Q 28 (.max (.t 25) (.t 27)),
   Q 29 (.build [.int .i64 0,.int .i64 0,.aK 3,.str ⟨#[]⟩] [(0,1,.t 13),(1,1,.t 18),(2,1,.t 23),(3,1,.t 28)]),Qs 4 4 29] [[],[0],[],[2],[],[4],[2,3,4,5],[],[7],[],[9],[7,8,9,10],[],[12],[],[14],[12,13,14,15],lr 17,lr 18] [4] [4,11102,12300])
 (.ret)))
def fL.m:Fn:={np:=2,body:=fL.b,res:=[.cell 4 true 4]}
def fL.k(M:Nat→Option Body):Prop:=M 452=some (.code fL.m)∧eR.k M∧eC.k M
def gH.b:C:= .seq (.ak [Qv 2 0,Qv 3 1,Q 4 (.alloc [.int .i64 0,.int .i64 0,.int .i64 0])] [2,3,4] [2,3,4])
 (.seq (.seq (.ak [Qf 5 1 2,QL 6 2 5,Qf 7 1 3,QL 8 2 7,Q 9 (.call 277 [.t 6,.t 8] [] []),Qm 10 9,Qg 11 (.bC 1 (.t 2)) 10 false,Qg 12 (.load true 2 (.t 11)) 10 false,
   Qg 13 (.bC 1 (.t 3)) 10 false,Qg 14 (.load true 2 (.t 13)) 10 false,Qg 15 (.eqs false [.int,.int] (.t 12) (.t 14)) 10 false,Qg 16 (.mv (.t 15)) 10 false,
   Qg 17 (.bC 0 (.t 2)) 16 true,Qg 18 (.load false 1 (.t 17)) 16 true,Qg 19 (.bC 0 (.t 3)) 16 true,Qg 20 (.load false 1 (.t 19)) 16 true,
   Qg 21 (.bin .geq (.t 18) (.t 20)) 16 true,Qg 22 (.pick (.t 16) (.t 21) (kB false)) 10 false,Q 23 (.pick (.t 10) (kB true) (.t 22))] [2,3,4,23] [2,3,4])
 (.cond (.t 23) (.seq (.ak [QL 24 3 2,Qs 3 4 24] [4] [4])
 (.ret)) (.skip)))
 (.seq (.ak [QL 25 3 3,Qs 3 4 25] [4] [4])
 (.ret)))
def gH.m:Fn:={np:=2,body:=gH.b,res:=[.cell 4 true 3]}
def gH.k(M:Nat→Option Body):Prop:=M 488=some (.code gH.m)∧iB.k M
def ec.l0:C:= .seq (.seq (.ak [Qm 8 6,Qm 9 0,Q 10 (.len (.t 9)),Q 11 (.bin .lss (.t 8) (.t 10)),Qm 12 11,Qg 13 (.mv (.t 6)) 12 true,Qg 14 (.mv (.t 1)) 12 true,Qg 15 (.len (.t 14)) 12 true,
    Qg 16 (.bin .lss (.t 13) (.t 15)) 12 true,Q 17 (.pick (.t 12) (.t 16) (kB false))] [0,1,5,6,17] [7,31])
 (.cond (.t 17) (.skip) (.exit 0)))
 (.seq (.block 1 (.gw [Qm 20 5,Qm 21 0,Qm 22 6,Qa 23 3 21 22,QL 24 3 23,Qm 25 1,Qm 26 6,Qa 27 3 25 26,QL 28 3 27,Q 29 (.call 488 [.t 24,.t 28] [] []),
   Q 30 (.bM 3 1 [.int .i64 0,.int .i64 0,.int .i64 0] [(0,.t 29)]),Q 31 (.app 3 24 (.t 20) (.t 30)),Qm 5 31] [[],[],[],[1,2],[1,2,3],[],[],[5,6],[5,6,7],[1,2,3,4,5,6,7,8],[1,2,3,4,5,6,7,8,9],lr 11,lr 12] [0,1,5,6] [7,31]))
 (.ak [Qm 18 6,Q 19 (.bin .add (.t 18) (kI 1)),Qm 6 19] [0,1,5,6] [7,31]))
def ec.b:C:= .seq (.ak [Q 4 (.nil 3)] [0,1] [])
 (.seq (.ak [Q 7 (.bM 3 0 [.int .i64 0,.int .i64 0,.int .i64 0] []),Qm 5 7] [0,1,5] [7,31])
 (.seq (.seq (.ak [Qi 6 0] [0,1,5,6] [7,31])
 (.block 0 (.loop ec.l0)))
 (.seq (.ak [Qm 32 5,Qm 4 32] [4] [4,7,31])
 (.ret))))
def ec.m:Fn:={np:=2,body:=ec.b,res:=[.tmp 4]}
def ec.k(M:Nat→Option Body):Prop:=M 472=some (.code ec.m)∧gH.k M
def fJ.b:C:= .seq (.ak [Qv 2 0,Qv 3 1,Q 4 (.alloc [.int .i64 0,.int .i64 0,.aK 3,.str ⟨#[]⟩])] [2,3,4] [2,3,4,10702,11800])
 (.seq (.ak [QL 6 4 2,Q 7 (.call 238 [.t 6] [] [(2,10702)]),Q 5 (.alloc [.int .i64 0,.int .i64 0,.aK 3,.str ⟨#[]⟩]),Qs 4 5 7] [2,3,4,5] [2,3,4,5,10702,11800])
 (.seq (.seq (.ak [Qf 8 0 2,Ql 9 8,Qf 10 0 3,Ql 11 10,Q 12 (.bin .neq (.t 9) (.t 11))] [2,3,4,5,12] [2,3,4,5,10702,11800])
 (.cond (.t 12) (.seq (.ak [QL 13 4 5,Qs 4 4 13] [4] [4,10702,11800])
 (.ret)) (.skip)))
 (.seq (.ak [Qf 14 2 2,Ql 15 14,Qf 16 2 3,Ql 17 16,Q 18 (.call 472 [.t 15,.t 17] [] [(0,11800)]),Qf 19 2 5,Qs 1 19 18] [2,3,4,5] [2,3,4,5,10702,11800])
 (.seq (.seq (.ak [Qf 20 1 3,Ql 21 20,Qf 22 1 2,Ql 23 22,Q 24 (.bin .gtr (.t 21) (.t 23))] [2,3,4,5,24] [2,3,4,5,10702,11800])
 (.cond (.t 24) (.ak [Qf 25 1 3,Ql 26 25,Qf 27 1 5,Qs 1 27 26] [2,3,4,5] [2,3,4,5,10702,11800]) (.skip)))
 (.seq (.seq (.ak [Qf 28 3 3,Ql 29 28,Qf 30 3 2,Ql 31 30,Q 32 (.bin .gtr (.t 29) (.t 31))] [3,4,5,32] [3,4,5,10702,11800])
 (.cond (.t 32) (.ak [Qf 33 3 3,Ql 34 33,Qf 35 3 5,Qs 1 35 34] [4,5] [4,5,10702,11800]) (.skip)))
 (.seq (.ak [QL 36 4 5,Qs 4 4 36] [4] [4,10702,11800])
 (.ret)))))))
def fJ.m:Fn:={np:=2,body:=fJ.b,res:=[.cell 4 true 4]}
def fJ.k(M:Nat→Option Body):Prop:=M 461=some (.code fJ.m)∧fU.k M∧ec.k M
def aD.l0:C:= .seq (.seq (.ak [Qm 16 6,Qm 17 0,Q 18 (.len (.t 17)),Q 19 (.bin .lss (.t 16) (.t 18))] [0,1,5,6,19] [0])
 (.cond (.t 19) (.skip) (.exit 0)))
 (.seq (.block 1 (.seq (.ak [Qm 22 0,Qm 23 6,Qa 24 4 22 23,QL 25 4 24,Q 7 (.alloc [.int .i64 0,.int .i64 0,.aK 3,.str ⟨#[]⟩]),Qs 4 7 25] [0,1,5,6,7] [0,7])
 (.seq (.ak [Qm 26 1,QL 27 4 7,Q 28 (.o4 (.t 26) [.t 27]),Q 29 (.not (.t 28))] [0,1,5,6,7,29] [0,7])
 (.cond (.t 29) (.seq (.ak [Qm 30 0,Qm 31 5,QL 32 4 7,Qa 33 4 30 31,Qs 4 33 32] [0,1,5,6] [0])
 (.ak [Qm 34 5,Q 35 (.bin .add (.t 34) (kI 1)),Qm 5 35] [0,1,5,6] [0])) (.skip)))))
 (.ak [Qm 20 6,Q 21 (.bin .add (.t 20) (kI 1)),Qm 6 21] [0,1,5,6] [0]))
def aD.b:C:= .seq (.ak [Q 4 (.nil 4)] [0,1] [0])
 (.seq (.ak [Qm 8 0,Qm 9 1,Q 10 (.call 161 [.t 8,.t 9] [] []),Qm 5 10] [0,1,5] [0])
 (.seq (.seq (.ak [Qm 11 5,Q 12 (.bin .eql (.t 11) (kI (-1)))] [0,1,5,12] [0])
 (.cond (.t 12) (.seq (.ak [Qm 13 0,Qm 4 13] [4] [0,4])
 (.ret)) (.skip)))
 (.seq (.seq (.ak [Qm 14 5,Q 15 (.bin .add (.t 14) (kI 1)),Qm 6 15] [0,1,5,6] [0])
 (.block 0 (.loop aD.l0)))
 (.seq (.ak [Qm 36 0,Qm 37 5,Q 38 (.xh 4 (.t 36) (some (.t 37)) none none),Qn (.FL [.int .i64 0,.int .i64 0,.aK 3,.str ⟨#[]⟩] (.t 38))] [0,5] [0])
 (.seq (.ak [Qm 39 0,Qm 40 5,Q 41 (.xh 4 (.t 39) none (some (.t 40)) none),Qm 4 41] [4] [0,4])
 (.ret))))))
def aD.m:Fn:={np:=2,body:=aD.b,res:=[.tmp 4]}
def aD.k(M:Nat→Option Body):Prop:=M 453=some (.code aD.m)∧aC.k M
def hZ.b:C:= .seq (.ak [Qv 2 0,Qb 3 false] [1,2] [2])
 (.seq (.ak [Ql 4 1,Qf 5 0 2,Ql 6 5,Q 7 (.call 156 [.t 4,.t 6] [] []),Qm 3 7] [3] [])
 (.ret))
def hZ.m:Fn:={np:=2,body:=hZ.b,res:=[.tmp 3]}
def hZ.k(M:Nat→Option Body):Prop:=M 454=some (.code hZ.m)∧aI.k M
def ar.l1:C:= .seq (.seq (.gw [Qm 18 9,Qm 19 1,Q 20 (.bin .gtr (.t 18) (.t 19)),Qm 21 20,Qg 22 (.mv (.t 3)) 21 true,Qg 23 (.mv (.t 0)) 21 true,Qg 24 (.mv (.t 9)) 21 true,
    Qg 25 (.lH 4 (.t 23) (.t 24)) 21 true,Qg 26 (.load true 4 (.t 25)) 21 true,Qg 27 (.mv (.t 0)) 21 true,Qg 28 (.mv (.t 9)) 21 true,Qg 29 (.bin .sub (.t 28) (kI 1)) 21 true,
    Qg 30 (.lH 4 (.t 27) (.t 29)) 21 true,Qg 31 (.load true 4 (.t 30)) 21 true,Qg 32 (.o4 (.t 22) [.t 26,.t 31]) 21 true,Qg 33 (.bin .lss (.t 32) (kI 0)) 21 true,
    Q 34 (.pick (.t 21) (.t 33) (kB false))] [[],[],[0,1],[0,1,2],lr 4,lr 4,lr 4,lr 4++[5,6],lr 4++[5,6,7],lr 4,lr 4,lr 4++[10],lr 4++[9,10,11],lr 4++[9,10,11,12],lr 14,lr 15,lr 16] [0,1,2,3,8,9,34] [0])
 (.cond (.t 34) (.skip) (.exit 2)))
 (.seq (.block 3 (.gw [Qm 37 0,Qm 38 9,Qm 39 0,Qm 40 9,Q 41 (.bin .sub (.t 40) (kI 1)),Qm 42 0,Qm 43 9,Q 44 (.bin .sub (.t 43) (kI 1)),Qa 45 4 42 44,QL 46 4 45,Qm 47 0,Qm 48 9,Qa 49 4 47 48,
   QL 50 4 49,Qa 51 4 37 38,Qs 4 51 46,Qa 52 4 39 41,Qs 4 52 50] [[],[],[],[],[3],[],[],[6],[5,6,7],[5,6,7,8],[],[],[10,11],[10,11,12],[0,1,5,6,7,8,9,10,11,12,13],[0,1,5,6,7,8,9,10,11,12,13,14],lr 16,lr 17] [0,1,2,3,8,9] [0]))
 (.ak [Qm 35 9,Q 36 (.bin .sub (.t 35) (kI 1)),Qm 9 36] [0,1,2,3,8,9] [0]))
def ar.l0:C:= .seq (.seq (.ak [Qm 12 8,Qm 13 2,Q 14 (.bin .lss (.t 12) (.t 13))] [0,1,2,3,8,14] [0])
 (.cond (.t 14) (.skip) (.exit 0)))
 (.seq (.block 1 (.seq (.ak [Qm 17 8,Qm 9 17] [0,1,2,3,8,9] [0])
 (.block 2 (.loop ar.l1))))
 (.ak [Qm 15 8,Q 16 (.bin .add (.t 15) (kI 1)),Qm 8 16] [0,1,2,3,8] [0]))
def ar.b:C:= .seq (.ak [Qm 10 1,Q 11 (.bin .add (.t 10) (kI 1)),Qm 8 11] [0,1,2,3,8] [0])
 (.block 0 (.loop ar.l0))
def ar.m:Fn:={np:=4,body:=ar.b,res:=[]}
def ar.k(M:Nat→Option Body):Prop:=M 486=some (.code ar.m)
def aM.l0:C:= .seq (.seq (.ak [Qm 11 8,Qm 12 1,Q 13 (.bin .leq (.t 11) (.t 12))] [0,1,2,6,7,8,13] [0])
 (.cond (.t 13) (.skip) (.exit 0)))
 (.block 1 (.seq (.ak [Qm 14 0,Qm 15 7,Qm 16 8,Qm 17 2,Q 18 (.call 486 [.t 14,.t 15,.t 16,.t 17] [0] [])] [0,1,2,6,8] [0])
 (.seq (.ak [Qm 19 8,Qm 7 19] [0,1,2,6,7,8] [0])
 (.ak [Qm 20 8,Qm 21 6,Q 22 (.bin .add (.t 20) (.t 21)),Qm 8 22] [0,1,2,6,7,8] [0]))))
def aM.l2:C:= .seq (.seq (.ak [Qm 33 8,Qm 34 1,Q 35 (.bin .leq (.t 33) (.t 34))] [0,1,2,6,7,8,35] [0])
 (.cond (.t 35) (.skip) (.exit 4)))
 (.block 5 (.seq (.ak [Qm 36 0,Qm 37 7,Qm 38 7,Qm 39 6,Q 40 (.bin .add (.t 38) (.t 39)),Qm 41 8,Qm 42 2,Q 43 (.call 487 [.t 36,.t 37,.t 40,.t 41,.t 42] [0] [])] [0,1,2,6,8] [0])
 (.seq (.ak [Qm 44 8,Qm 7 44] [0,1,2,6,7,8] [0])
 (.ak [Qm 45 8,Qm 46 6,Q 47 (.bin .mul (kI 2) (.t 46)),Q 48 (.bin .add (.t 45) (.t 47)),Qm 8 48] [0,1,2,6,7,8] [0]))))
def aM.l1:C:= .seq (.seq (.ak [Qm 28 6,Qm 29 1,Q 30 (.bin .lss (.t 28) (.t 29))] [0,1,2,6,30] [0])
 (.cond (.t 30) (.skip) (.exit 2)))
 (.block 3 (.seq (.ak [Qm 31 6,Q 32 (.bin .mul (kI 2) (.t 31)),Qi 7 0,Qm 8 32] [0,1,2,6,7,8] [0])
 (.seq (.block 4 (.loop aM.l2))
 (.seq (.seq (.ak [Qm 49 7,Qm 50 6,Q 51 (.bin .add (.t 49) (.t 50)),Qm 9 51] [0,1,2,6,7,9] [0])
 (.seq (.ak [Qm 52 9,Qm 53 1,Q 54 (.bin .lss (.t 52) (.t 53))] [0,1,2,6,7,9,54] [0])
 (.cond (.t 54) (.ak [Qm 55 0,Qm 56 7,Qm 57 9,Qm 58 1,Qm 59 2,Q 60 (.call 487 [.t 55,.t 56,.t 57,.t 58,.t 59] [0] [])] [0,1,2,6] [0]) (.skip))))
 (.ak [Qm 61 6,Q 62 (.bin .mul (.t 61) (kI 2)),Qm 6 62] [0,1,2,6] [0])))))
def aM.b:C:= .seq (.ak [Qi 6 20] [0,1,2,6] [0])
 (.seq (.ak [Qm 10 6,Qi 7 0,Qm 8 10] [0,1,2,6,7,8] [0])
 (.seq (.block 0 (.loop aM.l0))
 (.seq (.ak [Qm 23 0,Qm 24 7,Qm 25 1,Qm 26 2,Q 27 (.call 486 [.t 23,.t 24,.t 25,.t 26] [0] [])] [0,1,2,6] [0])
 (.block 2 (.loop aM.l1)))))
def aM.m:Fn:={np:=3,body:=aM.b,res:=[]}
def aM.k(M:Nat→Option Body):Prop:=M 471=some (.code aM.m)∧ar.k M
def aV.b:C:= .ak [Qm 4 0,Qm 5 0,Q 6 (.len (.t 5)),Qm 7 1,Q 8 (.call 471 [.t 4,.t 6,.t 7] [0] [])] [] [0]
def aV.m:Fn:={np:=2,body:=aV.b,res:=[]}
def aV.k(M:Nat→Option Body):Prop:=M 455=some (.code aV.m)∧aM.k M
def fm.b:C:= .seq (.ak [Qi 4 0] [0,1] [])
 (.seq (.block 0 (.seq (.ak [Qm 6 0,Qm 7 1,Q 8 (.bin .lss (.t 6) (.t 7)),Qm 5 8] [0,1,5] [])
 (.cond (.t 5) (.seq (.ak [Qi 4 (-1)] [4] [])
 (.ret)) (.seq (.ak [Qm 10 0,Qm 11 1,Q 12 (.bin .gtr (.t 10) (.t 11)),Qm 9 12] [9] [])
 (.cond (.t 9) (.seq (.ak [Qi 4 1] [4] [])
 (.ret)) (.skip))))))
 (.seq (.ak [Qi 4 0] [4] [])
 (.ret)))
def fm.m:Fn:={np:=2,body:=fm.b,res:=[.tmp 4]}
def fm.k(M:Nat→Option Body):Prop:=M 457=some (.code fm.m)
def hQ.b:C:= .seq (.ak [Qv 2 0,Qv 3 1,Qi 4 0] [2,3] [2,3])
 (.seq (.ak [Qf 5 0 2,Ql 6 5,Qf 7 0 3,Ql 8 7,Q 9 (.call 457 [.t 6,.t 8] [] []),Qm 4 9] [4] [])
 (.ret))
def hQ.m:Fn:={np:=2,body:=hQ.b,res:=[.tmp 4]}
def hQ.k(M:Nat→Option Body):Prop:=M 456=some (.code hQ.m)∧fm.k M
def hO.b:C:= .seq (.ak [Qv 2 0,Qv 3 1,Qi 4 0] [2,3] [2,3])
 (.seq (.ak [Qf 5 1 2,Ql 6 5,Qf 7 1 3,Ql 8 7,Q 9 (.call 457 [.t 6,.t 8] [] []),Qm 4 9] [4] [])
 (.ret))
def hO.m:Fn:={np:=2,body:=hO.b,res:=[.tmp 4]}
def hO.k(M:Nat→Option Body):Prop:=M 458=some (.code hO.m)∧fm.k M
def b7.l0:C:= .seq (.ak [Q 21 (.bin .lss (.t 20) (.t 19))] [2,3,6,18,19,20,21] [2,3,16,41,59,16800])
 (.seq (.cond (.t 21) (.skip) (.exit 0))
 (.seq (.block 1 (.seq (.ak [Qa 22 4 18 20,QL 23 4 22,Q 8 (.alloc [.int .i64 0,.int .i64 0,.aK 3,.str ⟨#[]⟩]),Qs 4 8 23] [2,3,6,8,18,19,20] [2,3,8,16,41,59,16800])
 (.seq (.seq (.ak [QL 24 7 3,Qf 25 0 8,Ql 26 25,Q 27 (.call 72 [.t 24,.t 26] [] []),Qm 9 27] [2,3,6,8,9,18,19,20] [2,3,8,16,41,59,16800])
 (.seq (.ak [Qm 28 9,Q 29 (.bin .geq (.t 28) (kI 0))] [2,3,6,8,9,18,19,20,29] [2,3,8,16,41,59,16800])
 (.cond (.t 29) (.gw [QL 30 4 8,Qf 31 5 3,Ql 32 31,Qm 33 9,Qa 34 4 32 33,QL 35 4 34,Q 36 (.call 452 [.t 30,.t 35] [] []),Qs 4 8 36] [[],[],[1],[],[1,2,3],[1,2,3,4],lr 6,lr 7] [2,3,6,8,18,19,20] [2,3,8,16,41,59,16800]) (.skip))))
 (.ak [Qm 37 6,QL 38 4 8,Q 39 (.call 233 [.t 38] [] []),Q 40 (.bM 4 1 [.int .i64 0,.int .i64 0,.aK 3,.str ⟨#[]⟩] [(0,.t 39)]),Q 41 (.app 4 56 (.t 37) (.t 40)),Qm 6 41] [2,3,6,18,19,20] [2,3,16,41,59,16800]))))
 (.ak [Q 42 (.bin .add (.t 20) (kI 1)),Qm 20 42] [2,3,6,18,19,20] [2,3,16,41,59,16800])))
def b7.l1:C:= .seq (.ak [Q 47 (.bin .lss (.t 46) (.t 45))] [2,3,6,44,45,46,47] [2,3,16,41,59,16800])
 (.seq (.cond (.t 47) (.skip) (.exit 2))
 (.seq (.block 3 (.seq (.ak [Qa 48 4 44 46,QL 49 4 48,Q 11 (.alloc [.int .i64 0,.int .i64 0,.aK 3,.str ⟨#[]⟩]),Qs 4 11 49] [2,3,6,11,44,45,46] [2,3,11,16,41,59,16800])
 (.seq (.ak [QL 50 7 2,Qf 51 0 11,Ql 52 51,Q 53 (.call 20 [.t 50,.t 52] [] []),Q 54 (.not (.t 53))] [2,3,6,11,44,45,46,54] [2,3,11,16,41,59,16800])
 (.cond (.t 54) (.ak [Qm 55 6,QL 56 4 11,Q 57 (.call 233 [.t 56] [] []),Q 58 (.bM 4 1 [.int .i64 0,.int .i64 0,.aK 3,.str ⟨#[]⟩] [(0,.t 57)]),Q 59 (.app 4 56 (.t 55) (.t 58)),Qm 6 59] [2,3,6,44,45,46] [2,3,16,41,59,16800]) (.skip)))))
 (.ak [Q 60 (.bin .add (.t 46) (kI 1)),Qm 46 60] [2,3,6,44,45,46] [2,3,16,41,59,16800])))
def b7.l2:C:= .seq (.ak [Q 79 (.bin .lss (.t 78) (.t 77))] [2,3,6,13,76,77,78,79] [2,3,16,41,59,16800])
 (.seq (.cond (.t 79) (.skip) (.exit 4))
 (.seq (.block 5 (.seq (.ak [Qm 80 78,Qa 81 4 76 78,QL 82 4 81,Q 15 (.alloc [.int .i64 0,.int .i64 0,.aK 3,.str ⟨#[]⟩]),Qm 14 80,Qs 4 15 82] [2,3,6,13,14,15,76,77,78] [2,3,15,16,41,59,16800])
 (.seq (.ak [QL 83 7 2,Qf 84 0 15,Ql 85 84,Q 86 (.call 20 [.t 83,.t 85] [] []),Qm 87 86,Qg 88 (.load true 7 (.t 2)) 87 true,Qg 89 (.load true 7 (.t 3)) 87 true,
   Qg 90 (.bC 0 (.t 15)) 87 true,Qg 91 (.load false 1 (.t 90)) 87 true,Qg 92 (.call 23 [.t 88,.t 89,.t 91] [] []) 87 true,Qg 93 (.not (.t 92)) 87 true,
   Q 94 (.pick (.t 87) (.t 93) (kB false)),Qm 95 94,Qg 96 (.load true 7 (.t 3)) 95 false,Qg 97 (.bC 0 (.t 15)) 95 false,Qg 98 (.load false 1 (.t 97)) 95 false,
   Qg 99 (.call 20 [.t 96,.t 98] [] []) 95 false,Qg 100 (.mv (.t 99)) 95 false,Qg 101 (.load true 7 (.t 3)) 100 true,Qg 102 (.load true 7 (.t 2)) 100 true,
   Qg 103 (.bC 0 (.t 15)) 100 true,Qg 104 (.load false 1 (.t 103)) 100 true,Qg 105 (.call 23 [.t 101,.t 102,.t 104] [] []) 100 true,Qg 106 (.not (.t 105)) 100 true,
   Qg 107 (.pick (.t 100) (.t 106) (kB false)) 95 false,Q 108 (.pick (.t 95) (kB true) (.t 107))] [2,3,6,13,14,76,77,78,108] [2,3,16,41,59,16800])
 (.cond (.t 108) (.seq (.ak [Qm 109 6,Qm 110 14,Qm 111 13,Qa 112 4 109 110,Qf 113 1 112,Qs 1 113 111] [2,3,6,13,76,77,78] [2,3,16,41,59,16800])
 (.ak [Qm 114 13,Q 115 (.bin .add (.t 114) (kI 1)),Qm 13 115] [2,3,6,13,76,77,78] [2,3,16,41,59,16800])) (.skip)))))
 (.ak [Q 116 (.bin .add (.t 78) (kI 1)),Qm 78 116] [2,3,6,13,76,77,78] [2,3,16,41,59,16800])))
def b7.b:C:= .seq (.ak [Qv 2 0,Qv 3 1,Q 4 (.nil 4),Qi 5 0] [2,3] [2,3])
 (.seq (.ak [Q 16 (.bM 4 0 [.int .i64 0,.int .i64 0,.aK 3,.str ⟨#[]⟩] []),Qm 6 16] [2,3,6] [2,3,16,41,59,16800])
 (.seq (.seq (.ak [Qf 17 5 2,Ql 18 17,Q 19 (.len (.t 18)),Qi 20 0] [2,3,6,18,19,20] [2,3,16,41,59,16800])
 (.block 0 (.loop b7.l0)))
 (.seq (.seq (.ak [Qf 43 5 3,Ql 44 43,Q 45 (.len (.t 44)),Qi 46 0] [2,3,6,44,45,46] [2,3,16,41,59,16800])
 (.block 2 (.loop b7.l1)))
 (.seq (.ak [Qf 61 6 2,Ql 62 61,Qf 63 6 3,Ql 64 63,Q 65 (.call 44 [.t 62,.t 64] [] []),Q 12 (.alloc [.aK 1]),Qs 1 12 65] [2,3,6,12] [2,3,12,16,41,59,16800])
 (.seq (.shut [12] (.ak [Qm 66 6,Q 67 (.ud 454 [.t 12]),Q 68 (.call 453 [.t 66,.t 67] [0] [(0,16800)]),Qm 6 68] [2,3,6] [2,3,16,41,59,16800]))
 (.seq (.ak [Qm 69 6,Q 70 (.call 455 [.t 69,.fn 456] [0] [])] [2,3,6] [2,3,16,41,59,16800])
 (.seq (.ak [Qf 71 4 2,Ql 72 71,Qf 73 4 3,Ql 74 73,Q 75 (.max (.t 72) (.t 74)),Qm 13 75] [2,3,6,13] [2,3,16,41,59,16800])
 (.seq (.seq (.ak [Qm 76 6,Q 77 (.len (.t 76)),Qi 78 0] [2,3,6,13,76,77,78] [2,3,16,41,59,16800])
 (.block 4 (.loop b7.l2)))
 (.seq (.ak [Qm 117 6,Q 118 (.call 455 [.t 117,.fn 458] [0] [])] [6,13] [16,41,59,16800])
 (.seq (.ak [Qm 119 6,Qm 120 13,Qm 4 119,Qm 5 120] [4,5] [4,16,41,59,16800])
 (.ret)))))))))))
def b7.m:Fn:={np:=2,body:=b7.b,res:=[.tmp 4,.tmp 5]}
def b7.k(M:Nat→Option Body):Prop:=M 437=some (.code b7.m)∧jq.k M∧dU.k M∧fM.k M∧cK.k M∧eR.k M∧fL.k M∧aD.k M∧hZ.k M∧aV.k M∧hQ.k M∧hO.k M
def gZ.b:C:= .seq (.ak [Qv 2 0,Qv 3 1,Q 4 (.alloc [.int .i64 0,.str ⟨#[]⟩,.int .i64 0,.int .i64 0,.int .i64 0,.aK 4,.aK 1])] [2,3,4] [2,3,4,11205,11206,12300,15400])
 (.seq (.seq (.ak [Qf 6 0 2,Ql 7 6,Qf 8 0 3,Ql 9 8,Q 10 (.bin .neq (.t 7) (.t 9))] [2,3,4,10] [2,3,4,11205,11206,12300,15400])
 (.cond (.t 10) (.seq (.ak [QL 11 7 2,Q 12 (.call 155 [.t 11] [] [(5,11205),(6,11206)]),Qs 7 4 12] [4] [4,11205,11206,12300,15400])
 (.ret)) (.skip)))
 (.seq (.gw [Qf 13 0 2,Ql 14 13,Qf 15 1 2,Ql 16 15,Qf 17 2 2,QL 18 2 17,Qf 19 6 2,Ql 20 19,Qf 21 6 3,Ql 22 21,Q 23 (.call 44 [.t 20,.t 22] [] [(0,12300)]),
   Q 24 (.build [.int .i64 0,.str ⟨#[]⟩,.int .i64 0,.int .i64 0,.int .i64 0,.aK 4,.aK 1] [(0,1,.t 14),(1,1,.t 16),(2,2,.t 18),(6,1,.t 23)]),
   Q 5 (.alloc [.int .i64 0,.str ⟨#[]⟩,.int .i64 0,.int .i64 0,.int .i64 0,.aK 4,.aK 1]),Qs 7 5 24] [[],[0],[],[2],[],[4],[],[6],[],[8],[6,7,8,9],lr 11,[],lr 13] [2,3,4,5] [2,3,4,5,11205,11206,12300,15400])
 (.seq (.seq (.ak [Qf 25 2 3,QL 26 2 25,Qf 27 2 2,QL 28 2 27,Q 29 (.call 275 [.t 26,.t 28] [] []),Qm 30 29,Qg 31 (.bC 2 (.t 2)) 30 false,Qg 32 (.load true 2 (.t 31)) 30 false,
   Qg 33 (.bC 2 (.t 3)) 30 false,Qg 34 (.load true 2 (.t 33)) 30 false,Qg 35 (.call 275 [.t 32,.t 34] [] []) 30 false,Qg 36 (.not (.t 35)) 30 false,
   Qg 37 (.mv (.t 36)) 30 false,Qg 38 (.bC 1 (.t 3)) 37 true,Qg 39 (.load false 1 (.t 38)) 37 true,Qg 40 (.bC 1 (.t 2)) 37 true,Qg 41 (.load false 1 (.t 40)) 37 true,
   Qg 42 (.bin .gtr (.t 39) (.t 41)) 37 true,Qg 43 (.pick (.t 37) (.t 42) (kB false)) 30 false,Q 44 (.pick (.t 30) (kB true) (.t 43))] [2,3,4,5,44] [2,3,4,5,11205,11206,12300,15400])
 (.cond (.t 44) (.seq (.ak [Qf 45 1 3,Ql 46 45,Qf 47 1 5,Qs 1 47 46] [2,3,4,5] [2,3,4,5,11205,11206,12300,15400])
 (.ak [Qf 48 2 3,QL 49 2 48,Qf 50 2 5,Qs 2 50 49] [2,3,4,5] [2,3,4,5,11205,11206,12300,15400])) (.skip)))
 (.seq (.ak [QL 52 7 2,QL 53 7 3,Q 54 (.call 437 [.t 52,.t 53] [] [(0,15400)]),Qm 51 54,Qx 55 0 51,Qx 56 1 51,Qf 57 5 5,Qs 1 57 55,Qf 58 4 5,Qs 1 58 56] [4,5] [4,5,11205,11206,12300,15400])
 (.seq (.ak [QL 59 7 5,Qs 7 4 59] [4] [4,11205,11206,12300,15400])
 (.ret))))))
def gZ.m:Fn:={np:=2,body:=gZ.b,res:=[.cell 4 true 7]}
def gZ.k(M:Nat→Option Body):Prop:=M 401=some (.code gZ.m)∧fM.k M∧cB.k M∧gm.k M∧b7.k M
def il.b:C:= .seq (.ak [Qv 2 0,Qv 3 1,Qi 4 0] [2,3] [2,3])
 (.seq (.seq (.ak [Qf 5 4 2,Ql 6 5,Qf 7 4 3,Ql 8 7,Q 9 (.bin .gtr (.t 6) (.t 8))] [2,3,9] [2,3])
 (.cond (.t 9) (.seq (.ak [Qf 10 4 2,Ql 11 10,Qm 4 11] [4] [])
 (.ret)) (.skip)))
 (.seq (.ak [Qf 12 4 3,Ql 13 12,Qm 4 13] [4] [])
 (.ret)))
def il.m:Fn:={np:=2,body:=il.b,res:=[.tmp 4]}
def il.k(M:Nat→Option Body):Prop:=M 459=some (.code il.m)
def dq.l0:C:= .seq (.seq (.ak [Qm 9 6,Qf 10 5 2,Ql 11 10,Q 12 (.len (.t 11)),Q 13 (.bin .lss (.t 9) (.t 12))] [2,3,5,6,13] [2,3,8])
 (.cond (.t 13) (.skip) (.exit 0)))
 (.seq (.block 1 (.seq (.ak [Qm 16 5,Qf 17 5 2,Ql 18 17,Qm 19 6,Qa 20 4 18 19,Qf 21 0 20,Ql 22 21,Q 23 (.call 132 [.t 16,.t 22] [] []),Q 24 (.not (.t 23))] [2,3,5,6,24] [2,3,8])
 (.cond (.t 24) (.ak [Qm 25 5,Qf 26 5 2,Ql 27 26,Qm 28 6,Qa 29 4 27 28,Qf 30 0 29,Ql 31 30,Q 32 (.call 133 [.t 25,.t 31] [] [(0,8)]),Qm 5 32] [2,3,5,6] [2,3,8]) (.skip))))
 (.ak [Qm 14 6,Q 15 (.bin .add (.t 14) (kI 1)),Qm 6 15] [2,3,5,6] [2,3,8]))
def dq.l1:C:= .seq (.seq (.ak [Qm 33 7,Qf 34 5 3,Ql 35 34,Q 36 (.len (.t 35)),Q 37 (.bin .lss (.t 33) (.t 36))] [3,5,7,37] [3,8])
 (.cond (.t 37) (.skip) (.exit 2)))
 (.seq (.block 3 (.seq (.ak [Qm 40 5,Qf 41 5 3,Ql 42 41,Qm 43 7,Qa 44 4 42 43,Qf 45 0 44,Ql 46 45,Q 47 (.call 132 [.t 40,.t 46] [] []),Q 48 (.not (.t 47))] [3,5,7,48] [3,8])
 (.cond (.t 48) (.ak [Qm 49 5,Qf 50 5 3,Ql 51 50,Qm 52 7,Qa 53 4 51 52,Qf 54 0 53,Ql 55 54,Q 56 (.call 133 [.t 49,.t 55] [] [(0,8)]),Qm 5 56] [3,5,7] [3,8]) (.skip))))
 (.ak [Qm 38 7,Q 39 (.bin .add (.t 38) (kI 1)),Qm 7 39] [3,5,7] [3,8]))
def dq.b:C:= .seq (.ak [Qv 2 0,Qv 3 1,Q 4 (.nil 1)] [2,3] [2,3])
 (.seq (.ak [Q 8 (.bM 1 0 [.int .i64 0] []),Qm 5 8] [2,3,5] [2,3,8])
 (.seq (.seq (.ak [Qi 6 0] [2,3,5,6] [2,3,8])
 (.block 0 (.loop dq.l0)))
 (.seq (.seq (.ak [Qi 7 0] [3,5,7] [3,8])
 (.block 2 (.loop dq.l1)))
 (.seq (.ak [Qm 57 5,Qm 4 57] [4] [4,8])
 (.ret)))))
def dq.m:Fn:={np:=2,body:=dq.b,res:=[.tmp 4]}
def dq.k(M:Nat→Option Body):Prop:=M 460=some (.code dq.m)∧bj.k M∧b9.k M
def cW.l0:C:= .seq (.seq (.ak [Qm 9 6,Qm 10 0,Q 11 (.len (.t 10)),Q 12 (.bin .lss (.t 9) (.t 11))] [0,3,5,6,12] [3,8,29,33,54])
 (.cond (.t 12) (.skip) (.exit 0)))
 (.seq (.block 1 (.seq (.gw [Qm 15 0,Qm 16 6,Qa 17 4 15 16,Qf 18 1 17,Ql 19 18,Qf 20 1 3,Ql 21 20,Q 22 (.bin .leq (.t 19) (.t 21))] [[],[],[0,1],[0,1,2],lr 4,[],[5],lr 7] [0,3,5,6,22] [3,8,29,33,54])
 (.cond (.t 22) (.ak [Qm 23 5,Qm 24 0,Qm 25 6,Qa 26 4 24 25,QL 27 4 26,Q 28 (.bM 4 1 [.int .i64 0,.int .i64 0,.aK 3,.str ⟨#[]⟩] [(0,.t 27)]),Q 29 (.app 4 56 (.t 23) (.t 28)),Qm 5 29] [0,3,5,6] [3,8,29,33,54]) (.skip))))
 (.ak [Qm 13 6,Q 14 (.bin .add (.t 13) (kI 1)),Qm 6 14] [0,3,5,6] [3,8,29,33,54]))
def cW.l1:C:= .seq (.seq (.ak [Qm 34 7,Qm 35 0,Q 36 (.len (.t 35)),Q 37 (.bin .lss (.t 34) (.t 36))] [0,3,5,7,37] [3,8,29,33,54])
 (.cond (.t 37) (.skip) (.exit 2)))
 (.seq (.block 3 (.seq (.gw [Qm 40 0,Qm 41 7,Qa 42 4 40 41,Qf 43 1 42,Ql 44 43,Qf 45 1 3,Ql 46 45,Q 47 (.bin .gtr (.t 44) (.t 46))] [[],[],[0,1],[0,1,2],lr 4,[],[5],lr 7] [0,3,5,7,47] [3,8,29,33,54])
 (.cond (.t 47) (.ak [Qm 48 5,Qm 49 0,Qm 50 7,Qa 51 4 49 50,QL 52 4 51,Q 53 (.bM 4 1 [.int .i64 0,.int .i64 0,.aK 3,.str ⟨#[]⟩] [(0,.t 52)]),Q 54 (.app 4 56 (.t 48) (.t 53)),Qm 5 54] [0,3,5,7] [3,8,29,33,54]) (.skip))))
 (.ak [Qm 38 7,Q 39 (.bin .add (.t 38) (kI 1)),Qm 7 39] [0,3,5,7] [3,8,29,33,54]))
def cW.b:C:= .seq (.ak [Qv 3 1,Q 4 (.nil 4)] [0,3] [3])
 (.seq (.ak [Q 8 (.bM 4 0 [.int .i64 0,.int .i64 0,.aK 3,.str ⟨#[]⟩] []),Qm 5 8] [0,3,5] [3,8,29,33,54])
 (.seq (.seq (.ak [Qi 6 0] [0,3,5,6] [3,8,29,33,54])
 (.block 0 (.loop cW.l0)))
 (.seq (.ak [Qm 30 5,QL 31 4 3,Q 32 (.bM 4 1 [.int .i64 0,.int .i64 0,.aK 3,.str ⟨#[]⟩] [(0,.t 31)]),Q 33 (.app 4 56 (.t 30) (.t 32)),Qm 5 33] [0,3,5] [3,8,29,33,54])
 (.seq (.seq (.ak [Qi 7 0] [0,3,5,7] [3,8,29,33,54])
 (.block 2 (.loop cW.l1)))
 (.seq (.ak [Qm 55 5,Qm 4 55] [4] [4,8,29,33,54])
 (.ret))))))
def cW.m:Fn:={np:=2,body:=cW.b,res:=[.tmp 4]}
def cW.k(M:Nat→Option Body):Prop:=M 462=some (.code cW.m)
def da.l0:C:= .seq (.seq (.ak [Qm 21 9,Qm 22 8,Q 23 (.len (.t 22)),Q 24 (.bin .lss (.t 21) (.t 23))] [2,3,6,7,8,9,24] [2,3,17])
 (.cond (.t 24) (.skip) (.exit 0)))
 (.seq (.block 1 (.seq (.ak [Qm 27 8,Qm 28 9,Qa 29 1 27 28,Ql 30 29,Qm 10 30] [2,3,6,7,8,9,10] [2,3,17])
 (.seq (.seq (.ak [Qf 31 6 2,Ql 32 31,Qm 33 10,Q 34 (.call 132 [.t 32,.t 33] [] []),Qm 35 34,Qg 36 (.bC 6 (.t 3)) 35 false,Qg 37 (.load false 1 (.t 36)) 35 false,
   Qg 38 (.mv (.t 10)) 35 false,Qg 39 (.call 132 [.t 37,.t 38] [] []) 35 false,Q 40 (.pick (.t 35) (kB true) (.t 39))] [2,3,6,7,8,9,10,40] [2,3,17])
 (.cond (.t 40) (.exit 1) (.skip)))
 (.seq (.ak [QL 41 7 2,Qm 42 10,Q 43 (.call 91 [.t 41,.t 42] [] []),Qm 11 43] [2,3,6,7,8,9,10,11] [2,3,17])
 (.seq (.ak [QL 44 7 3,Qm 45 10,Q 46 (.call 91 [.t 44,.t 45] [] []),Qm 12 46] [2,3,6,7,8,9,10,11,12] [2,3,17])
 (.seq (.ak [Q 47 (.build [.int .i64 0,.int .i64 0,.aK 3,.str ⟨#[]⟩] []),Q 13 (.alloc [.int .i64 0,.int .i64 0,.aK 3,.str ⟨#[]⟩]),Qs 4 13 47] [2,3,6,7,8,9,10,11,12,13] [2,3,13,17])
 (.seq (.block 2 (.seq (.ak [Qm 55 11,Q 56 (.bin .geq (.t 55) (kI 0)),Qm 57 56,Qg 58 (.mv (.t 12)) 57 true,Qg 59 (.bin .geq (.t 58) (kI 0)) 57 true,Q 60 (.pick (.t 57) (.t 59) (kB false)),Qm 54 60] [2,3,6,7,8,9,10,11,12,13,54] [2,3,13,17])
 (.cond (.t 54) (.gw [Qf 61 5 2,Ql 62 61,Qm 63 11,Qa 64 4 62 63,QL 65 4 64,Qf 66 5 3,Ql 67 66,Qm 68 12,Qa 69 4 67 68,QL 70 4 69,Q 71 (.call 461 [.t 65,.t 70] [] []),Qs 4 13 71] [[],[0],[],[0,1,2],lr 4,[],[5],[],[5,6,7],[5,6,7,8],lr 10,lr 11] [2,3,6,7,8,9,10,11,12,13] [2,3,13,17]) (.seq (.ak [Qm 73 11,Q 74 (.bin .geq (.t 73) (kI 0)),Qm 72 74] [2,3,6,7,8,9,10,11,12,13,72] [2,3,13,17])
 (.cond (.t 72) (.ak [Qf 75 5 2,Ql 76 75,Qm 77 11,Qa 78 4 76 77,QL 79 4 78,Q 80 (.call 238 [.t 79] [] []),Qs 4 13 80] [2,3,6,7,8,9,10,11,12,13] [2,3,13,17]) (.ak [Qf 48 5 3,Ql 49 48,Qm 50 12,Qa 51 4 49 50,QL 52 4 51,Q 53 (.call 238 [.t 52] [] []),Qs 4 13 53] [2,3,6,7,8,9,10,11,12,13] [2,3,13,17]))))))
 (.seq (.seq (.ak [Qm 81 11,Q 82 (.bin .geq (.t 81) (kI 0)),Qm 83 82,Qg 84 (.load true 7 (.t 2)) 83 true,Qg 85 (.load true 7 (.t 3)) 83 true,Qg 86 (.mv (.t 10)) 83 true,
   Qg 87 (.call 22 [.t 84,.t 85,.t 86] [] []) 83 true,Qg 88 (.not (.t 87)) 83 true,Q 89 (.pick (.t 83) (.t 88) (kB false)),Qm 90 89,Qg 91 (.mv (.t 12)) 90 false,
   Qg 92 (.bin .geq (.t 91) (kI 0)) 90 false,Qg 93 (.mv (.t 92)) 90 false,Qg 94 (.load true 7 (.t 3)) 93 true,Qg 95 (.load true 7 (.t 2)) 93 true,Qg 96 (.mv (.t 10)) 93 true,
   Qg 97 (.call 22 [.t 94,.t 95,.t 96] [] []) 93 true,Qg 98 (.not (.t 97)) 93 true,Qg 99 (.pick (.t 93) (.t 98) (kB false)) 90 false,Q 100 (.pick (.t 90) (kB true) (.t 99))] [2,3,6,7,8,9,13,100] [2,3,13,17])
 (.cond (.t 100) (.seq (.ak [Qm 101 6,Qf 102 1 13,Qs 1 102 101] [2,3,6,7,8,9,13] [2,3,13,17])
 (.ak [Qm 103 6,Q 104 (.bin .add (.t 103) (kI 1)),Qm 6 104] [2,3,6,7,8,9,13] [2,3,13,17])) (.skip)))
 (.shut [17] (.ak [Qm 105 7,QL 106 4 13,Q 107 (.call 462 [.t 105,.t 106] [] [(0,17)]),Qm 7 107] [2,3,6,7,8,9] [2,3,17]))))))))))
 (.ak [Qm 25 9,Q 26 (.bin .add (.t 25) (kI 1)),Qm 9 26] [2,3,6,7,8,9] [2,3,17]))
def da.b:C:= .seq (.ak [Qv 2 0,Qv 3 1,Q 4 (.nil 4),Qi 5 0] [2,3] [2,3])
 (.seq (.ak [QL 14 7 2,QL 15 7 3,Q 16 (.call 459 [.t 14,.t 15] [] []),Qm 6 16] [2,3,6] [2,3])
 (.seq (.ak [Q 17 (.bM 4 0 [.int .i64 0,.int .i64 0,.aK 3,.str ⟨#[]⟩] []),Qm 7 17] [2,3,6,7] [2,3,17])
 (.seq (.ak [QL 18 7 2,QL 19 7 3,Q 20 (.call 460 [.t 18,.t 19] [] []),Qm 8 20] [2,3,6,7,8] [2,3,17])
 (.seq (.seq (.ak [Qi 9 0] [2,3,6,7,8,9] [2,3,17])
 (.block 0 (.loop da.l0)))
 (.seq (.ak [Qm 108 7,Qm 109 6,Qm 4 108,Qm 5 109] [4,5] [4,17])
 (.ret))))))
def da.m:Fn:={np:=2,body:=da.b,res:=[.tmp 4,.tmp 5]}
def da.k(M:Nat→Option Body):Prop:=M 439=some (.code da.m)∧dR.k M∧bT.k M∧bj.k M∧fU.k M∧il.k M∧dq.k M∧fJ.k M∧cW.k M
def eV.b:C:= .seq (.ak [Qv 2 0,Qv 3 1,Q 4 (.alloc [.int .i64 0,.str ⟨#[]⟩,.int .i64 0,.int .i64 0,.int .i64 0,.aK 4,.aK 1])] [2,3,4] [2,3,4,11205,11206,12300,15300])
 (.seq (.seq (.ak [Qf 6 0 2,Ql 7 6,Qf 8 0 3,Ql 9 8,Q 10 (.bin .neq (.t 7) (.t 9))] [2,3,4,10] [2,3,4,11205,11206,12300,15300])
 (.cond (.t 10) (.seq (.ak [QL 11 7 2,Q 12 (.call 180 [.t 11] [] [(5,11205),(6,11206)]),Qs 7 4 12] [4] [4,11205,11206,12300,15300])
 (.ret)) (.skip)))
 (.seq (.gw [Qf 13 0 2,Ql 14 13,Qf 15 1 2,Ql 16 15,Qf 17 2 2,QL 18 2 17,Qf 19 6 2,Ql 20 19,Qf 21 6 3,Ql 22 21,Q 23 (.call 43 [.t 20,.t 22] [] [(0,12300)]),
   Q 24 (.build [.int .i64 0,.str ⟨#[]⟩,.int .i64 0,.int .i64 0,.int .i64 0,.aK 4,.aK 1] [(0,1,.t 14),(1,1,.t 16),(2,2,.t 18),(6,1,.t 23)]),
   Q 5 (.alloc [.int .i64 0,.str ⟨#[]⟩,.int .i64 0,.int .i64 0,.int .i64 0,.aK 4,.aK 1]),Qs 7 5 24] [[],[0],[],[2],[],[4],[],[6],[],[8],[6,7,8,9],lr 11,[],lr 13] [2,3,4,5] [2,3,4,5,11205,11206,12300,15300])
 (.seq (.seq (.ak [Qf 25 2 3,QL 26 2 25,Qf 27 2 2,QL 28 2 27,Q 29 (.call 277 [.t 26,.t 28] [] []),Qm 30 29,Qg 31 (.bC 2 (.t 2)) 30 false,Qg 32 (.load true 2 (.t 31)) 30 false,
   Qg 33 (.bC 2 (.t 3)) 30 false,Qg 34 (.load true 2 (.t 33)) 30 false,Qg 35 (.eqs false [.int,.int] (.t 32) (.t 34)) 30 false,Qg 36 (.mv (.t 35)) 30 false,
   Qg 37 (.bC 1 (.t 3)) 36 true,Qg 38 (.load false 1 (.t 37)) 36 true,Qg 39 (.bC 1 (.t 2)) 36 true,Qg 40 (.load false 1 (.t 39)) 36 true,
   Qg 41 (.bin .gtr (.t 38) (.t 40)) 36 true,Qg 42 (.pick (.t 36) (.t 41) (kB false)) 30 false,Q 43 (.pick (.t 30) (kB true) (.t 42))] [2,3,4,5,43] [2,3,4,5,11205,11206,12300,15300])
 (.cond (.t 43) (.seq (.ak [Qf 44 1 3,Ql 45 44,Qf 46 1 5,Qs 1 46 45] [2,3,4,5] [2,3,4,5,11205,11206,12300,15300])
 (.ak [Qf 47 2 3,QL 48 2 47,Qf 49 2 5,Qs 2 49 48] [2,3,4,5] [2,3,4,5,11205,11206,12300,15300])) (.skip)))
 (.seq (.ak [QL 51 7 2,QL 52 7 3,Q 53 (.call 439 [.t 51,.t 52] [] [(0,15300)]),Qm 50 53,Qx 54 0 50,Qx 55 1 50,Qf 56 5 5,Qs 1 56 54,Qf 57 4 5,Qs 1 57 55] [4,5] [4,5,11205,11206,12300,15300])
 (.seq (.ak [QL 58 7 5,Qs 7 4 58] [4] [4,11205,11206,12300,15300])
 (.ret))))))
def eV.m:Fn:={np:=2,body:=eV.b,res:=[.cell 4 true 7]}
def eV.k(M:Nat→Option Body):Prop:=M 405=some (.code eV.m)∧aU.k M∧cd.k M∧iB.k M∧da.k M
def gX.b:C:= .seq (.ak [Q 2 (.mv (.k (.int .u8 0)))] [0] [])
 (.seq (.seq (.ak [Qm 3 0,Q 4 (.bin .lss (.t 3) (kI 10))] [0,4] [])
 (.cond (.t 4) (.seq (.ak [Qm 5 0,Q 6 (.bin .add (kI 48) (.t 5)),Q 7 (.qY .u8 (.t 6)),Qm 2 7] [2] [])
 (.ret)) (.skip)))
 (.seq (.ak [Qm 8 0,Q 9 (.bin .add (kI 97) (.t 8)),Q 10 (.bin .sub (.t 9) (kI 10)),Q 11 (.qY .u8 (.t 10)),Qm 2 11] [2] [])
 (.ret)))
def gX.m:Fn:={np:=1,body:=gX.b,res:=[.tmp 2]}
def gX.k(M:Nat→Option Body):Prop:=M 247=some (.code gX.m)
def db.l0:C:= .seq (.seq (.ak [Qm 10 0,Q 11 (.bin .neq (.t 10) (kI 0))] [0,3,4,11] [])
 (.cond (.t 11) (.skip) (.exit 0)))
 (.block 1 (.seq (.ak [Qm 12 0,Q 13 (.bin .rem (.t 12) (kI 10)),Qm 5 13] [0,3,4,5] [])
 (.seq (.seq (.ak [Qm 14 5,Q 15 (.bin .lss (.t 14) (kI 0))] [0,3,4,5,15] [])
 (.cond (.t 15) (.ak [Qm 16 5,Q 17 (.neg (.t 16)),Qm 5 17] [0,3,4,5] []) (.skip)))
 (.seq (.ak [Qm 18 5,Q 19 (.call 247 [.t 18] [] []),Q 20 (.bM 1 1 [.int .u8 0] [(0,.t 19)]),Q 21 (.Fm (.t 20)),Qm 22 4,Q 23 (.bin .add (.t 21) (.t 22)),Qm 4 23] [0,3,4] [])
 (.ak [Qm 24 0,Q 25 (.bin .quo (.t 24) (kI 10)),Qm 0 25] [0,3,4] [])))))
def db.b:C:= .seq (.ak [Q 2 (.mv (.k (.str ⟨#[]⟩)))] [0] [])
 (.seq (.seq (.ak [Qm 6 0,Q 7 (.bin .eql (.t 6) (kI 0))] [0,7] [])
 (.cond (.t 7) (.seq (.ak [Q 2 (.mv (.k (.str ⟨#[48]⟩)))] [2] [])
 (.ret)) (.skip)))
 (.seq (.ak [Qm 8 0,Q 9 (.bin .lss (.t 8) (kI 0)),Qm 3 9] [0,3] [])
 (.seq (.ak [Q 4 (.mv (.k (.str ⟨#[]⟩)))] [0,3,4] [])
 (.seq (.block 0 (.loop db.l0))
 (.seq (.seq (.ak [Qm 26 3] [4,26] [])
 (.cond (.t 26) (.seq (.ak [Qm 27 4,Q 28 (.bin .add (.k (.str ⟨#[45]⟩)) (.t 27)),Qm 2 28] [2] [])
 (.ret)) (.skip)))
 (.seq (.ak [Qm 29 4,Qm 2 29] [2] [])
 (.ret)))))))
def db.m:Fn:={np:=1,body:=db.b,res:=[.tmp 2]}
def db.k(M:Nat→Option Body):Prop:=M 197=some (.code db.m)∧gX.k M
def dx.l0:C:= .seq (.seq (.ak [Qm 9 4,Q 10 (.bin .neq (.t 9) (kI 0))] [0,3,4,10] [])
 (.cond (.t 10) (.skip) (.exit 0)))
 (.seq (.block 1 (.seq (.ak [Qm 13 4,Q 14 (.bin .rem (.t 13) (kI 10)),Qm 5 14] [0,3,4,5] [])
 (.seq (.ak [Qm 15 5,Qm 16 5,Q 17 (.neg (.t 16)),Q 18 (.max (.t 15) (.t 17)),Qm 5 18] [0,3,4,5] [])
 (.ak [Qm 19 5,Qm 20 5,Q 21 (.bin .add (.t 20) (kI 1)),Q 22 (.oj (.k (.str ⟨#[48,49,50,51,52,53,54,55,56,57,97,98,99,100,101,102]⟩)) (some (.t 19)) (some (.t 21))),
   Qm 23 3,Q 24 (.bin .add (.t 22) (.t 23)),Qm 3 24] [0,3,4] []))))
 (.ak [Qm 11 4,Q 12 (.bin .quo (.t 11) (kI 10)),Qm 4 12] [0,3,4] []))
def dx.b:C:= .seq (.ak [Q 2 (.mv (.k (.str ⟨#[]⟩)))] [0] [])
 (.seq (.seq (.ak [Qm 6 0,Q 7 (.bin .eql (.t 6) (kI 0))] [0,7] [])
 (.cond (.t 7) (.seq (.ak [Q 2 (.mv (.k (.str ⟨#[48]⟩)))] [2] [])
 (.ret)) (.skip)))
 (.seq (.ak [Q 3 (.mv (.k (.str ⟨#[]⟩)))] [0,3] [])
 (.seq (.seq (.ak [Qm 8 0,Qm 4 8] [0,3,4] [])
 (.block 0 (.loop dx.l0)))
 (.seq (.seq (.ak [Qm 25 0,Q 26 (.bin .lss (.t 25) (kI 0))] [3,26] [])
 (.cond (.t 26) (.ak [Qm 27 3,Q 28 (.bin .add (.k (.str ⟨#[45]⟩)) (.t 27)),Qm 3 28] [3] []) (.skip)))
 (.seq (.ak [Qm 29 3,Qm 2 29] [2] [])
 (.ret))))))
def dx.m:Fn:={np:=1,body:=dx.b,res:=[.tmp 2]}
def dx.k(M:Nat→Option Body):Prop:=M 128=some (.code dx.m)
def eX.b:C:= .seq (.ak [Qv 2 0,Qb 3 false] [1,2] [2])
 (.seq (.ak [Qf 4 0 2,Ql 5 4,Ql 6 1,Q 7 (.bin .eql (.t 5) (.t 6)),Qm 3 7] [3] [])
 (.ret))
def eX.m:Fn:={np:=2,body:=eX.b,res:=[.tmp 3]}
def eX.k(M:Nat→Option Body):Prop:=M 477=some (.code eX.m)
def eY.b:C:= .seq (.ak [Qv 3 1,Qi 4 0] [0,3] [3])
 (.seq (.ak [Qm 5 0,Q 6 (.ud 477 [.t 3]),Q 7 (.call 200 [.t 5,.t 6] [] []),Qm 4 7] [4] [])
 (.ret))
def eY.m:Fn:={np:=2,body:=eY.b,res:=[.tmp 4]}
def eY.k(M:Nat→Option Body):Prop:=M 476=some (.code eY.m)∧aB.k M∧eX.k M
def aF.l0:C:= .seq (.seq (.ak [Qm 16 6,Qm 17 0,Q 18 (.len (.t 17)),Q 19 (.bin .lss (.t 16) (.t 18))] [0,1,5,6,19] [0])
 (.cond (.t 19) (.skip) (.exit 0)))
 (.seq (.block 1 (.seq (.ak [Qm 22 0,Qm 23 6,Qa 24 7 22 23,QL 25 7 24,Q 7 (.alloc [.int .i64 0,.str ⟨#[]⟩,.int .i64 0,.int .i64 0,.int .i64 0,.aK 4,.aK 1]),Qs 7 7 25] [0,1,5,6,7] [0,7])
 (.seq (.ak [Qm 26 1,QL 27 7 7,Q 28 (.o4 (.t 26) [.t 27]),Q 29 (.not (.t 28))] [0,1,5,6,7,29] [0,7])
 (.cond (.t 29) (.seq (.ak [Qm 30 0,Qm 31 5,QL 32 7 7,Qa 33 7 30 31,Qs 7 33 32] [0,1,5,6] [0])
 (.ak [Qm 34 5,Q 35 (.bin .add (.t 34) (kI 1)),Qm 5 35] [0,1,5,6] [0])) (.skip)))))
 (.ak [Qm 20 6,Q 21 (.bin .add (.t 20) (kI 1)),Qm 6 21] [0,1,5,6] [0]))
def aF.b:C:= .seq (.ak [Q 4 (.nil 7)] [0,1] [0])
 (.seq (.ak [Qm 8 0,Qm 9 1,Q 10 (.call 200 [.t 8,.t 9] [] []),Qm 5 10] [0,1,5] [0])
 (.seq (.seq (.ak [Qm 11 5,Q 12 (.bin .eql (.t 11) (kI (-1)))] [0,1,5,12] [0])
 (.cond (.t 12) (.seq (.ak [Qm 13 0,Qm 4 13] [4] [0,4])
 (.ret)) (.skip)))
 (.seq (.seq (.ak [Qm 14 5,Q 15 (.bin .add (.t 14) (kI 1)),Qm 6 15] [0,1,5,6] [0])
 (.block 0 (.loop aF.l0)))
 (.seq (.ak [Qm 36 0,Qm 37 5,Q 38 (.xh 7 (.t 36) (some (.t 37)) none none),Qn (.FL [.int .i64 0,.str ⟨#[]⟩,.int .i64 0,.int .i64 0,.int .i64 0,.aK 4,.aK 1] (.t 38))] [0,5] [0])
 (.seq (.ak [Qm 39 0,Qm 40 5,Q 41 (.xh 7 (.t 39) none (some (.t 40)) none),Qm 4 41] [4] [0,4])
 (.ret))))))
def aF.m:Fn:={np:=2,body:=aF.b,res:=[.tmp 4]}
def aF.k(M:Nat→Option Body):Prop:=M 478=some (.code aF.m)∧aB.k M
def fC.b:C:= .seq (.ak [Qv 2 0,Qb 3 false] [1,2] [2])
 (.seq (.ak [Ql 4 1,Qf 5 0 2,Ql 6 5,Q 7 (.call 156 [.t 4,.t 6] [] []),Qm 3 7] [3] [])
 (.ret))
def fC.m:Fn:={np:=2,body:=fC.b,res:=[.tmp 3]}
def fC.k(M:Nat→Option Body):Prop:=M 479=some (.code fC.m)∧aI.k M
def ay.l1:C:= .seq (.seq (.gw [Qm 18 9,Qm 19 1,Q 20 (.bin .gtr (.t 18) (.t 19)),Qm 21 20,Qg 22 (.mv (.t 3)) 21 true,Qg 23 (.mv (.t 0)) 21 true,Qg 24 (.mv (.t 9)) 21 true,
    Qg 25 (.lH 7 (.t 23) (.t 24)) 21 true,Qg 26 (.load true 7 (.t 25)) 21 true,Qg 27 (.mv (.t 0)) 21 true,Qg 28 (.mv (.t 9)) 21 true,Qg 29 (.bin .sub (.t 28) (kI 1)) 21 true,
    Qg 30 (.lH 7 (.t 27) (.t 29)) 21 true,Qg 31 (.load true 7 (.t 30)) 21 true,Qg 32 (.o4 (.t 22) [.t 26,.t 31]) 21 true,Qg 33 (.bin .lss (.t 32) (kI 0)) 21 true,
    Q 34 (.pick (.t 21) (.t 33) (kB false))] [[],[],[0,1],[0,1,2],lr 4,lr 4,lr 4,lr 4++[5,6],lr 4++[5,6,7],lr 4,lr 4,lr 4++[10],lr 4++[9,10,11],lr 4++[9,10,11,12],lr 14,lr 15,lr 16] [0,1,2,3,8,9,34] [0])
 (.cond (.t 34) (.skip) (.exit 2)))
 (.seq (.block 3 (.gw [Qm 37 0,Qm 38 9,Qm 39 0,Qm 40 9,Q 41 (.bin .sub (.t 40) (kI 1)),Qm 42 0,Qm 43 9,Q 44 (.bin .sub (.t 43) (kI 1)),Qa 45 7 42 44,QL 46 7 45,Qm 47 0,Qm 48 9,Qa 49 7 47 48,
   QL 50 7 49,Qa 51 7 37 38,Qs 7 51 46,Qa 52 7 39 41,Qs 7 52 50] [[],[],[],[],[3],[],[],[6],[5,6,7],[5,6,7,8],[],[],[10,11],[10,11,12],[0,1,5,6,7,8,9,10,11,12,13],[0,1,5,6,7,8,9,10,11,12,13,14],lr 16,lr 17] [0,1,2,3,8,9] [0]))
 (.ak [Qm 35 9,Q 36 (.bin .sub (.t 35) (kI 1)),Qm 9 36] [0,1,2,3,8,9] [0]))
def ay.l0:C:= .seq (.seq (.ak [Qm 12 8,Qm 13 2,Q 14 (.bin .lss (.t 12) (.t 13))] [0,1,2,3,8,14] [0])
 (.cond (.t 14) (.skip) (.exit 0)))
 (.seq (.block 1 (.seq (.ak [Qm 17 8,Qm 9 17] [0,1,2,3,8,9] [0])
 (.block 2 (.loop ay.l1))))
 (.ak [Qm 15 8,Q 16 (.bin .add (.t 15) (kI 1)),Qm 8 16] [0,1,2,3,8] [0]))
def ay.b:C:= .seq (.ak [Qm 10 1,Q 11 (.bin .add (.t 10) (kI 1)),Qm 8 11] [0,1,2,3,8] [0])
 (.block 0 (.loop ay.l0))
def ay.m:Fn:={np:=4,body:=ay.b,res:=[]}
def ay.k(M:Nat→Option Body):Prop:=M 492=some (.code ay.m)
def aP.l0:C:= .seq (.seq (.ak [Qm 11 8,Qm 12 1,Q 13 (.bin .leq (.t 11) (.t 12))] [0,1,2,6,7,8,13] [0])
 (.cond (.t 13) (.skip) (.exit 0)))
 (.block 1 (.seq (.ak [Qm 14 0,Qm 15 7,Qm 16 8,Qm 17 2,Q 18 (.call 492 [.t 14,.t 15,.t 16,.t 17] [0] [])] [0,1,2,6,8] [0])
 (.seq (.ak [Qm 19 8,Qm 7 19] [0,1,2,6,7,8] [0])
 (.ak [Qm 20 8,Qm 21 6,Q 22 (.bin .add (.t 20) (.t 21)),Qm 8 22] [0,1,2,6,7,8] [0]))))
def aP.l2:C:= .seq (.seq (.ak [Qm 33 8,Qm 34 1,Q 35 (.bin .leq (.t 33) (.t 34))] [0,1,2,6,7,8,35] [0])
 (.cond (.t 35) (.skip) (.exit 4)))
 (.block 5 (.seq (.ak [Qm 36 0,Qm 37 7,Qm 38 7,Qm 39 6,Q 40 (.bin .add (.t 38) (.t 39)),Qm 41 8,Qm 42 2,Q 43 (.call 493 [.t 36,.t 37,.t 40,.t 41,.t 42] [0] [])] [0,1,2,6,8] [0])
 (.seq (.ak [Qm 44 8,Qm 7 44] [0,1,2,6,7,8] [0])
 (.ak [Qm 45 8,Qm 46 6,Q 47 (.bin .mul (kI 2) (.t 46)),Q 48 (.bin .add (.t 45) (.t 47)),Qm 8 48] [0,1,2,6,7,8] [0]))))
def aP.l1:C:= .seq (.seq (.ak [Qm 28 6,Qm 29 1,Q 30 (.bin .lss (.t 28) (.t 29))] [0,1,2,6,30] [0])
 (.cond (.t 30) (.skip) (.exit 2)))
 (.block 3 (.seq (.ak [Qm 31 6,Q 32 (.bin .mul (kI 2) (.t 31)),Qi 7 0,Qm 8 32] [0,1,2,6,7,8] [0])
 (.seq (.block 4 (.loop aP.l2))
 (.seq (.seq (.ak [Qm 49 7,Qm 50 6,Q 51 (.bin .add (.t 49) (.t 50)),Qm 9 51] [0,1,2,6,7,9] [0])
 (.seq (.ak [Qm 52 9,Qm 53 1,Q 54 (.bin .lss (.t 52) (.t 53))] [0,1,2,6,7,9,54] [0])
 (.cond (.t 54) (.ak [Qm 55 0,Qm 56 7,Qm 57 9,Qm 58 1,Qm 59 2,Q 60 (.call 493 [.t 55,.t 56,.t 57,.t 58,.t 59] [0] [])] [0,1,2,6] [0]) (.skip))))
 (.ak [Qm 61 6,Q 62 (.bin .mul (.t 61) (kI 2)),Qm 6 62] [0,1,2,6] [0])))))
def aP.b:C:= .seq (.ak [Qi 6 20] [0,1,2,6] [0])
 (.seq (.ak [Qm 10 6,Qi 7 0,Qm 8 10] [0,1,2,6,7,8] [0])
 (.seq (.block 0 (.loop aP.l0))
 (.seq (.ak [Qm 23 0,Qm 24 7,Qm 25 1,Qm 26 2,Q 27 (.call 492 [.t 23,.t 24,.t 25,.t 26] [0] [])] [0,1,2,6] [0])
 (.block 2 (.loop aP.l1)))))
def aP.m:Fn:={np:=3,body:=aP.b,res:=[]}
def aP.k(M:Nat→Option Body):Prop:=M 490=some (.code aP.m)∧ay.k M
def a_.b:C:= .ak [Qm 4 0,Qm 5 0,Q 6 (.len (.t 5)),Qm 7 1,Q 8 (.call 490 [.t 4,.t 6,.t 7] [0] [])] [] [0]
def a_.m:Fn:={np:=2,body:=a_.b,res:=[]}
def a_.k(M:Nat→Option Body):Prop:=M 480=some (.code a_.m)∧aP.k M
def fB.b:C:= .seq (.ak [Qv 2 0,Qv 3 1,Qi 4 0] [2,3] [2,3])
 (.seq (.ak [Qf 5 0 2,Ql 6 5,Qf 7 0 3,Ql 8 7,Q 9 (.call 457 [.t 6,.t 8] [] []),Qm 4 9] [4] [])
 (.ret))
def fB.m:Fn:={np:=2,body:=fB.b,res:=[.tmp 4]}
def fB.k(M:Nat→Option Body):Prop:=M 481=some (.code fB.m)∧fm.k M
def bh.b:C:= .seq (.ak [Qb 4 false] [0,1] [])
 (.seq (.ak [Qm 5 0,Qm 6 1,Q 7 (.call 200 [.t 5,.t 6] [] []),Q 8 (.bin .geq (.t 7) (kI 0)),Qm 4 8] [4] [])
 (.ret))
def bh.m:Fn:={np:=2,body:=bh.b,res:=[.tmp 4]}
def bh.k(M:Nat→Option Body):Prop:=M 482=some (.code bh.m)∧aB.k M
def fA.b:C:= .seq (.ak [Qv 2 0,Qb 3 false] [1,2] [2])
 (.seq (.ak [Qf 4 1 2,Ql 5 4,Qf 6 1 1,Ql 7 6,Q 8 (.bin .eql (.t 5) (.t 7)),Qm 3 8] [3] [])
 (.ret))
def fA.m:Fn:={np:=2,body:=fA.b,res:=[.tmp 3]}
def fA.k(M:Nat→Option Body):Prop:=M 483=some (.code fA.m)
def cM.b:C:= .seq (.ak [Q 4 (.mv (.k (.str ⟨#[]⟩)))] [0,1] [])
 (.seq (.ak [Qm 7 0,Qm 8 0,Q 9 (.j0 (.t 8)),Q 10 (.min (kI 6) (.t 9)),Q 11 (.oj (.t 7) none (some (.t 10))),Q 12 (.bin .add (.t 11) (.k (.str ⟨#[120]⟩))),Qm 5 12] [1,5] [])
 (.seq (.seq (.ak [Qm 13 1,Q 14 (.bin .gtr (.t 13) (kI 0))] [1,5,14] [])
 (.cond (.t 14) (.seq (.ak [Qm 15 1,Q 16 (.call 128 [.t 15] [] []),Qm 6 16] [5,6] [])
 (.ak [Qm 17 5,Qm 18 6,Qm 19 6,Q 20 (.j0 (.t 19)),Q 21 (.bin .sub (.t 20) (kI 5)),Q 22 (.max (kI 0) (.t 21)),Q 23 (.oj (.t 18) (some (.t 22)) none),
   Q 24 (.bin .add (.t 17) (.t 23)),Qm 5 24] [5] [])) (.skip)))
 (.seq (.ak [Qm 25 5,Qm 4 25] [4] [])
 (.ret))))
def cM.m:Fn:={np:=2,body:=cM.b,res:=[.tmp 4]}
def cM.k(M:Nat→Option Body):Prop:=M 484=some (.code cM.m)∧dx.k M
def bz.l0:C:= .seq (.ak [Q 20 (.bin .lss (.t 19) (.t 18))] [0,1,5,7,8,17,18,19,20] [5,16,40,58,16200])
 (.seq (.cond (.t 20) (.skip) (.exit 0))
 (.seq (.block 1 (.seq (.ak [Qa 21 7 17 19,QL 22 7 21,Q 10 (.alloc [.int .i64 0,.str ⟨#[]⟩,.int .i64 0,.int .i64 0,.int .i64 0,.aK 4,.aK 1]),Qs 7 10 22] [0,1,5,7,8,10,17,18,19] [5,10,16,40,58,16200])
 (.seq (.seq (.ak [Qm 23 8,Qm 24 1,Qf 25 0 10,Ql 26 25,Q 27 (.o4 (.t 23) [.t 24,.t 26]),Qm 11 27] [0,1,5,7,8,10,11,17,18,19] [5,10,16,40,58,16200])
 (.seq (.ak [Qm 28 11,Q 29 (.bin .geq (.t 28) (kI 0))] [0,1,5,7,8,10,11,17,18,19,29] [5,10,16,40,58,16200])
 (.cond (.t 29) (.gw [QL 30 7 10,Qm 31 1,Qm 32 11,Qa 33 7 31 32,QL 34 7 33,Q 35 (.call 401 [.t 30,.t 34] [] []),Qs 7 10 35] [[],[],[],[1,2],[1,2,3],lr 5,lr 6] [0,1,5,7,8,10,17,18,19] [5,10,16,40,58,16200]) (.skip))))
 (.ak [Qm 36 7,QL 37 7 10,Q 38 (.call 155 [.t 37] [] []),Q 39 (.bM 7 1 [.int .i64 0,.str ⟨#[]⟩,.int .i64 0,.int .i64 0,.int .i64 0,.aK 4,.aK 1] [(0,.t 38)]),
   Q 40 (.app 7 96 (.t 36) (.t 39)),Qm 7 40] [0,1,5,7,8,17,18,19] [5,16,40,58,16200]))))
 (.ak [Q 41 (.bin .add (.t 19) (kI 1)),Qm 19 41] [0,1,5,7,8,17,18,19] [5,16,40,58,16200])))
def bz.l1:C:= .seq (.ak [Q 45 (.bin .lss (.t 44) (.t 43))] [0,5,7,8,42,43,44,45] [5,16,40,58,16200])
 (.seq (.cond (.t 45) (.skip) (.exit 2))
 (.seq (.block 3 (.seq (.ak [Qa 46 7 42 44,QL 47 7 46,Q 13 (.alloc [.int .i64 0,.str ⟨#[]⟩,.int .i64 0,.int .i64 0,.int .i64 0,.aK 4,.aK 1]),Qs 7 13 47] [0,5,7,8,13,42,43,44] [5,13,16,40,58,16200])
 (.seq (.ak [Qm 48 8,Qm 49 0,Qf 50 0 13,Ql 51 50,Q 52 (.o4 (.t 48) [.t 49,.t 51]),Q 53 (.bin .lss (.t 52) (kI 0))] [0,5,7,8,13,42,43,44,53] [5,13,16,40,58,16200])
 (.cond (.t 53) (.ak [Qm 54 7,QL 55 7 13,Q 56 (.call 155 [.t 55] [] []),Q 57 (.bM 7 1 [.int .i64 0,.str ⟨#[]⟩,.int .i64 0,.int .i64 0,.int .i64 0,.aK 4,.aK 1] [(0,.t 56)]),
   Q 58 (.app 7 96 (.t 54) (.t 57)),Qm 7 58] [0,5,7,8,42,43,44] [5,16,40,58,16200]) (.skip)))))
 (.ak [Q 59 (.bin .add (.t 44) (kI 1)),Qm 44 59] [0,5,7,8,42,43,44] [5,16,40,58,16200])))
def bz.l2:C:= .seq (.ak [Q 68 (.bin .lss (.t 67) (.t 66))] [7,65,66,67,68] [16,40,58,16200])
 (.seq (.cond (.t 68) (.skip) (.exit 4))
 (.seq (.block 5 (.seq (.ak [Qm 69 67,Qa 70 7 65 67,QL 71 7 70,Q 15 (.alloc [.int .i64 0,.str ⟨#[]⟩,.int .i64 0,.int .i64 0,.int .i64 0,.aK 4,.aK 1]),Qm 14 69,Qs 7 15 71] [7,14,15,65,66,67] [15,16,40,58,16200])
 (.seq (.ak [Qm 72 7,Qm 73 14,Q 74 (.xh 7 (.t 72) none (some (.t 73)) none),Q 75 (.ud 483 [.t 15]),Q 76 (.call 482 [.t 74,.t 75] [] [])] [7,14,15,65,66,67,76] [15,16,40,58,16200])
 (.cond (.t 76) (.ak [Qm 77 7,Qm 78 14,Qf 79 1 15,Ql 80 79,Qf 81 0 15,Ql 82 81,Q 83 (.call 484 [.t 80,.t 82] [] []),Qa 84 7 77 78,Qf 85 1 84,Qs 1 85 83] [7,65,66,67] [16,40,58,16200]) (.skip)))))
 (.ak [Q 86 (.bin .add (.t 67) (kI 1)),Qm 67 86] [7,65,66,67] [16,40,58,16200])))
def bz.b:C:= .seq (.ak [Qv 5 2,Q 6 (.nil 7)] [0,1,5] [5])
 (.seq (.ak [Q 16 (.bM 7 0 [.int .i64 0,.str ⟨#[]⟩,.int .i64 0,.int .i64 0,.int .i64 0,.aK 4,.aK 1] []),Qm 7 16] [0,1,5,7] [5,16,40,58,16200])
 (.seq (.ak [Q 8 (.mv (.fn 476))] [0,1,5,7,8] [5,16,40,58,16200])
 (.seq (.seq (.ak [Qm 17 0,Q 18 (.len (.t 17)),Qi 19 0] [0,1,5,7,8,17,18,19] [5,16,40,58,16200])
 (.block 0 (.loop bz.l0)))
 (.seq (.seq (.ak [Qm 42 1,Q 43 (.len (.t 42)),Qi 44 0] [0,5,7,8,42,43,44] [5,16,40,58,16200])
 (.block 2 (.loop bz.l1)))
 (.seq (.shut [5] (.ak [Qm 60 7,Q 61 (.ud 479 [.t 5]),Q 62 (.call 478 [.t 60,.t 61] [0] [(0,16200)]),Qm 7 62] [7] [16,40,58,16200]))
 (.seq (.ak [Qm 63 7,Q 64 (.call 480 [.t 63,.fn 481] [0] [])] [7] [16,40,58,16200])
 (.seq (.seq (.ak [Qm 65 7,Q 66 (.len (.t 65)),Qi 67 0] [7,65,66,67] [16,40,58,16200])
 (.block 4 (.loop bz.l2)))
 (.seq (.ak [Qm 87 7,Qm 6 87] [6] [6,16,40,58,16200])
 (.ret)))))))))
def bz.m:Fn:={np:=3,body:=bz.b,res:=[.tmp 6]}
def bz.k(M:Nat→Option Body):Prop:=M 467=some (.code bz.m)∧cB.k M∧gZ.k M∧eY.k M∧aF.k M∧fC.k M∧a_.k M∧fB.k M∧bh.k M∧fA.k M∧cM.k M
def bG.l1:C:= .seq (.ak [Q 49 (.bin .lss (.t 48) (.t 47))] [4,6,7,8,9,10,37,38,39,46,47,48,49] [4,6,9,35,44,60,73,11900,13300])
 (.seq (.cond (.t 49) (.skip) (.exit 2))
 (.seq (.block 3 (.seq (.ak [Qa 50 4 46 48,QL 51 4 50,Q 12 (.alloc [.int .i64 0,.int .i64 0,.aK 3,.str ⟨#[]⟩]),Qs 4 12 51] [4,6,7,8,9,10,12,37,38,39,46,47,48] [4,6,9,12,35,44,60,73,11900,13300])
 (.seq (.ak [Qm 52 7,Qf 53 0 12,Ql 54 53,Q 55 (.call 156 [.t 52,.t 54] [] []),Q 56 (.not (.t 55))] [4,6,7,8,9,10,12,37,38,39,46,47,48,56] [4,6,9,12,35,44,60,73,11900,13300])
 (.cond (.t 56) (.ak [Qm 57 10,QL 58 4 12,Q 59 (.bM 4 1 [.int .i64 0,.int .i64 0,.aK 3,.str ⟨#[]⟩] [(0,.t 58)]),Q 60 (.app 4 56 (.t 57) (.t 59)),Qm 10 60] [4,6,7,8,9,10,37,38,39,46,47,48] [4,6,9,35,44,60,73,11900,13300]) (.skip)))))
 (.ak [Q 61 (.bin .add (.t 48) (kI 1)),Qm 48 61] [4,6,7,8,9,10,37,38,39,46,47,48] [4,6,9,35,44,60,73,11900,13300])))
def bG.l2:C:= .seq (.ak [Q 66 (.bin .lss (.t 65) (.t 64))] [4,6,7,8,10,37,38,39,63,64,65,66] [4,6,35,44,60,73,11900,13300])
 (.seq (.cond (.t 66) (.skip) (.exit 4))
 (.seq (.block 5 (.seq (.ak [Qa 67 4 63 65,QL 68 4 67,Q 14 (.alloc [.int .i64 0,.int .i64 0,.aK 3,.str ⟨#[]⟩]),Qs 4 14 68] [4,6,7,8,10,14,37,38,39,63,64,65] [4,6,14,35,44,60,73,11900,13300])
 (.ak [Qm 69 7,Qf 70 0 14,Ql 71 70,Q 72 (.bM 1 1 [.int .i64 0] [(0,.t 71)]),Q 73 (.app 1 8 (.t 69) (.t 72)),Qm 7 73] [4,6,7,8,10,37,38,39,63,64,65] [4,6,35,44,60,73,11900,13300])))
 (.ak [Q 74 (.bin .add (.t 65) (kI 1)),Qm 65 74] [4,6,7,8,10,37,38,39,63,64,65] [4,6,35,44,60,73,11900,13300])))
def bG.l0:C:= .seq (.ak [Q 40 (.bin .lss (.t 39) (.t 38))] [4,6,7,37,38,39,40] [4,6,35,73,11900,13300])
 (.seq (.cond (.t 40) (.skip) (.exit 0))
 (.seq (.block 1 (.seq (.ak [Qm 41 39,Qa 42 7 37 39,QL 43 7 42,Q 9 (.alloc [.int .i64 0,.str ⟨#[]⟩,.int .i64 0,.int .i64 0,.int .i64 0,.aK 4,.aK 1]),Qm 8 41,Qs 7 9 43] [4,6,7,8,9,37,38,39] [4,6,9,35,73,11900,13300])
 (.seq (.ak [Q 44 (.bM 4 0 [.int .i64 0,.int .i64 0,.aK 3,.str ⟨#[]⟩] []),Qm 10 44] [4,6,7,8,9,10,37,38,39] [4,6,9,35,44,60,73,11900,13300])
 (.seq (.seq (.ak [Qf 45 5 9,Ql 46 45,Q 47 (.len (.t 46)),Qi 48 0] [4,6,7,8,9,10,37,38,39,46,47,48] [4,6,9,35,44,60,73,11900,13300])
 (.block 2 (.loop bG.l1)))
 (.seq (.seq (.ak [Qf 62 5 9,Ql 63 62,Q 64 (.len (.t 63)),Qi 65 0] [4,6,7,8,10,37,38,39,63,64,65] [4,6,35,44,60,73,11900,13300])
 (.block 4 (.loop bG.l2)))
 (.shut [44,60] (.ak [Qf 75 2 6,Ql 76 75,Qm 77 8,Qm 78 10,Qa 79 7 76 77,Qf 80 5 79,Qs 1 80 78] [4,6,7,37,38,39] [4,6,35,73,11900,13300])))))))
 (.ak [Q 81 (.bin .add (.t 39) (kI 1)),Qm 39 81] [4,6,7,37,38,39] [4,6,35,73,11900,13300])))
def bG.b:C:= .seq (.ak [Qv 2 0,Qv 3 1,Q 4 (.alloc [.int .i64 0,.int .i64 0,.aK 7,.aK 1])] [2,3,4] [2,3,4,11900,13300])
 (.seq (.ak [Qf 15 3 2,Ql 16 15,Qf 17 3 3,Ql 18 17,Q 19 (.call 44 [.t 16,.t 18] [] [(0,11900)]),Qm 5 19] [2,3,4,5] [2,3,4,11900,13300])
 (.seq (.shut [11900] (.gw [Qf 20 0 2,Ql 21 20,Qf 22 1 2,Ql 23 22,Qf 24 1 3,Ql 25 24,Q 26 (.max (.t 23) (.t 25)),Qm 27 5,Qf 28 2 2,Ql 29 28,Qf 30 2 3,Ql 31 30,Qm 32 5,
   Q 33 (.call 467 [.t 29,.t 31,.t 32] [] [(0,13300)]),Q 34 (.build [.int .i64 0,.int .i64 0,.aK 7,.aK 1] [(0,1,.t 21),(1,1,.t 26),(3,1,.t 27),(2,1,.t 33)]),
   Q 6 (.alloc [.int .i64 0,.int .i64 0,.aK 7,.aK 1]),Qs 4 6 34] [[],[0],[],[2],[],[4],[2,3,4,5],[],[],[8],[],[10],[],[8,9,10,11,12],lr 14,[],lr 16] [4,6] [4,6,11900,13300]))
 (.seq (.ak [Q 35 (.bM 1 0 [.int .i64 0] []),Qm 7 35] [4,6,7] [4,6,35,73,11900,13300])
 (.seq (.seq (.ak [Qf 36 2 6,Ql 37 36,Q 38 (.len (.t 37)),Qi 39 0] [4,6,7,37,38,39] [4,6,35,73,11900,13300])
 (.block 0 (.loop bG.l0)))
 (.seq (.ak [QL 82 4 6,Qs 4 4 82] [4] [4,11900,13300])
 (.ret))))))
def bG.m:Fn:={np:=2,body:=bG.b,res:=[.cell 4 true 4]}
def bG.k(M:Nat→Option Body):Prop:=M 447=some (.code bG.m)∧fM.k M∧aI.k M∧bz.k M
def fw.b:C:= .seq (.ak [Qv 2 0,Qv 3 1,Qb 4 false] [2,3] [2,3])
 (.seq (.ak [QL 5 4 2,Q 6 (.call 150 [.t 5] [] []),Qm 7 6,Qg 8 (.load true 4 (.t 3)) 7 true,Qg 9 (.call 150 [.t 8] [] []) 7 true,Q 10 (.pick (.t 7) (.t 9) (kB false)),Qm 11 10,
   Qg 12 (.load true 4 (.t 2)) 11 true,Qg 13 (.load true 4 (.t 3)) 11 true,Qg 14 (.call 447 [.t 12,.t 13] [] []) 11 true,Qg 15 (.call 150 [.t 14] [] []) 11 true,
   Q 16 (.pick (.t 11) (.t 15) (kB false)),Qm 4 16] [4] [])
 (.ret))
def fw.m:Fn:={np:=2,body:=fw.b,res:=[.tmp 4]}
def fw.k(M:Nat→Option Body):Prop:=M 433=some (.code fw.m)∧aJ.k M∧bG.k M
def gk.l0:C:= .seq (.seq (.ak [Qm 6 5,Qm 7 0,Q 8 (.len (.t 7)),Q 9 (.bin .lss (.t 6) (.t 8))] [0,1,5,9] [])
 (.cond (.t 9) (.skip) (.exit 0)))
 (.seq (.block 1 (.seq (.ak [Qm 12 0,Qm 13 5,Qa 14 7 12 13,Qf 15 0 14,Ql 16 15,Qm 17 1,Q 18 (.bin .eql (.t 16) (.t 17))] [0,1,5,18] [])
 (.cond (.t 18) (.seq (.ak [Qm 19 5,Qm 4 19] [4] [])
 (.ret)) (.skip))))
 (.ak [Qm 10 5,Q 11 (.bin .add (.t 10) (kI 1)),Qm 5 11] [0,1,5] []))
def gk.b:C:= .seq (.ak [Qi 4 0] [0,1] [])
 (.seq (.seq (.ak [Qi 5 0] [0,1,5] [])
 (.block 0 (.loop gk.l0)))
 (.seq (.ak [Qi 4 (-1)] [4] [])
 (.ret)))
def gk.m:Fn:={np:=2,body:=gk.b,res:=[.tmp 4]}
def gk.k(M:Nat→Option Body):Prop:=M 474=some (.code gk.m)
def cE.b:C:= .seq (.ak [Q 4 (.mv (.k (.str ⟨#[]⟩)))] [0,1] [])
 (.seq (.ak [Qm 7 0,Qm 5 7] [1,5] [])
 (.seq (.seq (.ak [Qm 8 5,Q 9 (.j0 (.t 8)),Q 10 (.bin .gtr (.t 9) (kI 6))] [1,5,10] [])
 (.cond (.t 10) (.ak [Qm 11 5,Q 12 (.oj (.t 11) none (some (kI 6))),Qm 5 12] [1,5] []) (.skip)))
 (.seq (.ak [Q 6 (.mv (.k (.str ⟨#[]⟩)))] [1,5,6] [])
 (.seq (.seq (.ak [Qm 13 1,Q 14 (.bin .gtr (.t 13) (kI 0))] [1,5,6,14] [])
 (.cond (.t 14) (.ak [Qm 15 1,Q 16 (.call 197 [.t 15] [] []),Qm 6 16] [5,6] []) (.skip)))
 (.seq (.seq (.ak [Qm 17 6,Q 18 (.j0 (.t 17)),Q 19 (.bin .gtr (.t 18) (kI 5))] [5,6,19] [])
 (.cond (.t 19) (.ak [Qm 20 6,Qm 21 6,Q 22 (.j0 (.t 21)),Q 23 (.bin .sub (.t 22) (kI 5)),Q 24 (.oj (.t 20) (some (.t 23)) none),Qm 6 24] [5,6] []) (.skip)))
 (.seq (.ak [Qm 25 5,Q 26 (.bin .add (.t 25) (.k (.str ⟨#[120]⟩))),Qm 27 6,Q 28 (.bin .add (.t 26) (.t 27)),Qm 4 28] [4] [])
 (.ret)))))))
def cE.m:Fn:={np:=2,body:=cE.b,res:=[.tmp 4]}
def cE.k(M:Nat→Option Body):Prop:=M 475=some (.code cE.m)∧db.k M
def aY.l0:C:= .seq (.seq (.ak [Qm 17 8,Qm 18 0,Q 19 (.len (.t 18)),Q 20 (.bin .lss (.t 17) (.t 19))] [0,1,2,7,8,20] [16])
 (.cond (.t 20) (.skip) (.exit 0)))
 (.seq (.block 1 (.seq (.ak [Qm 23 7,Qm 24 0,Qm 25 8,Qa 26 7 24 25,Qf 27 0 26,Ql 28 27,Q 29 (.call 132 [.t 23,.t 28] [] []),Q 30 (.not (.t 29))] [0,1,2,7,8,30] [16])
 (.cond (.t 30) (.ak [Qm 31 7,Qm 32 0,Qm 33 8,Qa 34 7 32 33,Qf 35 0 34,Ql 36 35,Q 37 (.call 133 [.t 31,.t 36] [] [(0,16)]),Qm 7 37] [0,1,2,7,8] [16]) (.skip))))
 (.ak [Qm 21 8,Q 22 (.bin .add (.t 21) (kI 1)),Qm 8 22] [0,1,2,7,8] [16]))
def aY.l1:C:= .seq (.seq (.ak [Qm 38 9,Qm 39 1,Q 40 (.len (.t 39)),Q 41 (.bin .lss (.t 38) (.t 40))] [0,1,2,7,9,41] [16])
 (.cond (.t 41) (.skip) (.exit 2)))
 (.seq (.block 3 (.seq (.ak [Qm 44 7,Qm 45 1,Qm 46 9,Qa 47 7 45 46,Qf 48 0 47,Ql 49 48,Q 50 (.call 132 [.t 44,.t 49] [] []),Q 51 (.not (.t 50))] [0,1,2,7,9,51] [16])
 (.cond (.t 51) (.ak [Qm 52 7,Qm 53 1,Qm 54 9,Qa 55 7 53 54,Qf 56 0 55,Ql 57 56,Q 58 (.call 133 [.t 52,.t 57] [] [(0,16)]),Qm 7 58] [0,1,2,7,9] [16]) (.skip))))
 (.ak [Qm 42 9,Q 43 (.bin .add (.t 42) (kI 1)),Qm 9 43] [0,1,2,7,9] [16]))
def aY.l2:C:= .seq (.seq (.ak [Qm 60 11,Qm 61 7,Q 62 (.len (.t 61)),Q 63 (.bin .lss (.t 60) (.t 62))] [0,1,2,7,10,11,63] [16,59,91,110,121])
 (.cond (.t 63) (.skip) (.exit 4)))
 (.seq (.block 5 (.seq (.seq (.ak [Qm 66 2,Qm 67 7,Qm 68 11,Qa 69 1 67 68,Ql 70 69,Q 71 (.call 132 [.t 66,.t 70] [] [])] [0,1,2,7,10,11,71] [16,59,91,110,121])
 (.cond (.t 71) (.exit 5) (.skip)))
 (.seq (.ak [Qm 72 0,Qm 73 7,Qm 74 11,Qa 75 1 73 74,Ql 76 75,Q 77 (.call 474 [.t 72,.t 76] [] []),Qm 12 77] [0,1,2,7,10,11,12] [16,59,91,110,121])
 (.seq (.ak [Qm 78 1,Qm 79 7,Qm 80 11,Qa 81 1 79 80,Ql 82 81,Q 83 (.call 474 [.t 78,.t 82] [] []),Qm 13 83] [0,1,2,7,10,11,12,13] [16,59,91,110,121])
 (.block 6 (.seq (.ak [Qm 93 12,Q 94 (.bin .geq (.t 93) (kI 0)),Qm 95 94,Qg 96 (.mv (.t 13)) 95 true,Qg 97 (.bin .geq (.t 96) (kI 0)) 95 true,Q 98 (.pick (.t 95) (.t 97) (kB false)),Qm 92 98] [0,1,2,7,10,11,12,13,92] [16,59,91,110,121])
 (.cond (.t 92) (.gw [Qm 99 10,Qm 100 0,Qm 101 12,Qa 102 7 100 101,QL 103 7 102,Qm 104 1,Qm 105 13,Qa 106 7 104 105,QL 107 7 106,Q 108 (.call 405 [.t 103,.t 107] [] []),
   Q 109 (.bM 7 1 [.int .i64 0,.str ⟨#[]⟩,.int .i64 0,.int .i64 0,.int .i64 0,.aK 4,.aK 1] [(0,.t 108)]),Q 110 (.app 7 96 (.t 99) (.t 109)),Qm 10 110] [[],[],[],[1,2],[1,2,3],[],[],[5,6],[5,6,7],[1,2,3,4,5,6,7,8],[1,2,3,4,5,6,7,8,9],lr 11,lr 12] [0,1,2,7,10,11] [16,59,91,110,121]) (.seq (.ak [Qm 112 12,Q 113 (.bin .geq (.t 112) (kI 0)),Qm 111 113] [0,1,2,7,10,11,12,13,111] [16,59,91,110,121])
 (.cond (.t 111) (.ak [Qm 114 10,Qm 115 0,Qm 116 12,Qa 117 7 115 116,QL 118 7 117,Q 119 (.call 180 [.t 118] [] []),
   Q 120 (.bM 7 1 [.int .i64 0,.str ⟨#[]⟩,.int .i64 0,.int .i64 0,.int .i64 0,.aK 4,.aK 1] [(0,.t 119)]),Q 121 (.app 7 96 (.t 114) (.t 120)),Qm 10 121] [0,1,2,7,10,11] [16,59,91,110,121]) (.ak [Qm 84 10,Qm 85 1,Qm 86 13,Qa 87 7 85 86,QL 88 7 87,Q 89 (.call 180 [.t 88] [] []),
   Q 90 (.bM 7 1 [.int .i64 0,.str ⟨#[]⟩,.int .i64 0,.int .i64 0,.int .i64 0,.aK 4,.aK 1] [(0,.t 89)]),Q 91 (.app 7 96 (.t 84) (.t 90)),Qm 10 91] [0,1,2,7,10,11] [16,59,91,110,121]))))))))))
 (.ak [Qm 64 11,Q 65 (.bin .add (.t 64) (kI 1)),Qm 11 65] [0,1,2,7,10,11] [16,59,91,110,121]))
def aY.l4:C:= .seq (.seq (.ak [Qm 128 15,Qm 129 14,Q 130 (.bin .lss (.t 128) (.t 129))] [10,14,15,130] [59,91,110,121])
 (.cond (.t 130) (.skip) (.exit 9)))
 (.seq (.block 10 (.seq (.gw [Qm 133 10,Qm 134 15,Qa 135 7 133 134,Qf 136 1 135,Ql 137 136,Qm 138 10,Qm 139 14,Qa 140 7 138 139,Qf 141 1 140,Ql 142 141,Q 143 (.bin .eql (.t 137) (.t 142))] [[],[],[0,1],[0,1,2],lr 4,[],[],[5,6],[5,6,7],[5,6,7,8],lr 10] [10,14,15,143] [59,91,110,121])
 (.cond (.t 143) (.seq (.gw [Qm 144 10,Qm 145 14,Qm 146 10,Qm 147 14,Qa 148 7 146 147,Qf 149 1 148,Ql 150 149,Qm 151 10,Qm 152 14,Qa 153 7 151 152,Qf 154 0 153,Ql 155 154,
   Q 156 (.call 475 [.t 150,.t 155] [] []),Qa 157 7 144 145,Qf 158 1 157,Qs 1 158 156] [[],[],[],[],[2,3],[2,3,4],[2,3,4,5],[],[],[7,8],[7,8,9],[7,8,9,10],[2,3,4,5,6,7,8,9,10,11],lr 13,lr 14,lr 15] [10,14] [59,91,110,121])
 (.exit 9)) (.skip))))
 (.ak [Qm 131 15,Q 132 (.bin .add (.t 131) (kI 1)),Qm 15 132] [10,14,15] [59,91,110,121]))
def aY.l3:C:= .seq (.seq (.ak [Qm 122 14,Qm 123 10,Q 124 (.len (.t 123)),Q 125 (.bin .lss (.t 122) (.t 124))] [10,14,125] [59,91,110,121])
 (.cond (.t 125) (.skip) (.exit 7)))
 (.seq (.block 8 (.seq (.ak [Qi 15 0] [10,14,15] [59,91,110,121])
 (.block 9 (.loop aY.l4))))
 (.ak [Qm 126 14,Q 127 (.bin .add (.t 126) (kI 1)),Qm 14 127] [10,14] [59,91,110,121]))
def aY.b:C:= .seq (.ak [Q 6 (.nil 7)] [0,1,2] [])
 (.seq (.ak [Q 16 (.bM 1 0 [.int .i64 0] []),Qm 7 16] [0,1,2,7] [16])
 (.seq (.seq (.ak [Qi 8 0] [0,1,2,7,8] [16])
 (.block 0 (.loop aY.l0)))
 (.seq (.seq (.ak [Qi 9 0] [0,1,2,7,9] [16])
 (.block 2 (.loop aY.l1)))
 (.seq (.ak [Q 59 (.bM 7 0 [.int .i64 0,.str ⟨#[]⟩,.int .i64 0,.int .i64 0,.int .i64 0,.aK 4,.aK 1] []),Qm 10 59] [0,1,2,7,10] [16,59,91,110,121])
 (.seq (.seq (.ak [Qi 11 0] [0,1,2,7,10,11] [16,59,91,110,121])
 (.block 4 (.loop aY.l2)))
 (.seq (.seq (.ak [Qi 14 0] [10,14] [59,91,110,121])
 (.block 7 (.loop aY.l3)))
 (.seq (.ak [Qm 159 10,Qm 6 159] [6] [6,59,91,110,121])
 (.ret))))))))
def aY.m:Fn:={np:=3,body:=aY.b,res:=[.tmp 6]}
def aY.k(M:Nat→Option Body):Prop:=M 466=some (.code aY.m)∧bj.k M∧b9.k M∧cd.k M∧eV.k M∧gk.k M∧cE.k M
def bQ.l1:C:= .seq (.seq (.ak [Qm 46 9,Qf 47 2 5,Ql 48 47,Qm 49 7,Qa 50 7 48 49,Qf 51 5 50,Ql 52 51,Q 53 (.len (.t 52)),Q 54 (.bin .lss (.t 46) (.t 53))] [4,5,6,7,8,9,54] [4,5,37,45,74,79,11900,13500])
 (.cond (.t 54) (.skip) (.exit 2)))
 (.seq (.block 3 (.seq (.ak [Qf 57 2 5,Ql 58 57,Qm 59 7,Qa 60 7 58 59,Qf 61 5 60,Ql 62 61,Qm 63 9,Qa 64 4 62 63,QL 65 4 64,Q 10 (.alloc [.int .i64 0,.int .i64 0,.aK 3,.str ⟨#[]⟩]),Qs 4 10 65] [4,5,6,7,8,9,10] [4,5,10,37,45,74,79,11900,13500])
 (.seq (.ak [Qm 66 6,Qf 67 0 10,Ql 68 67,Q 69 (.call 132 [.t 66,.t 68] [] []),Q 70 (.not (.t 69))] [4,5,6,7,8,9,10,70] [4,5,10,37,45,74,79,11900,13500])
 (.cond (.t 70) (.seq (.ak [Qm 71 8,QL 72 4 10,Q 73 (.bM 4 1 [.int .i64 0,.int .i64 0,.aK 3,.str ⟨#[]⟩] [(0,.t 72)]),Q 74 (.app 4 56 (.t 71) (.t 73)),Qm 8 74] [4,5,6,7,8,9,10] [4,5,10,37,45,74,79,11900,13500])
 (.ak [Qm 75 6,Qf 76 0 10,Ql 77 76,Q 78 (.bM 1 1 [.int .i64 0] [(0,.t 77)]),Q 79 (.app 1 8 (.t 75) (.t 78)),Qm 6 79] [4,5,6,7,8,9] [4,5,37,45,74,79,11900,13500])) (.skip)))))
 (.ak [Qm 55 9,Q 56 (.bin .add (.t 55) (kI 1)),Qm 9 56] [4,5,6,7,8,9] [4,5,37,45,74,79,11900,13500]))
def bQ.l0:C:= .seq (.seq (.ak [Qm 38 7,Qf 39 2 5,Ql 40 39,Q 41 (.len (.t 40)),Q 42 (.bin .lss (.t 38) (.t 41))] [4,5,6,7,42] [4,5,37,79,11900,13500])
 (.cond (.t 42) (.skip) (.exit 0)))
 (.seq (.block 1 (.seq (.ak [Q 45 (.bM 4 0 [.int .i64 0,.int .i64 0,.aK 3,.str ⟨#[]⟩] []),Qm 8 45] [4,5,6,7,8] [4,5,37,45,74,79,11900,13500])
 (.seq (.seq (.ak [Qi 9 0] [4,5,6,7,8,9] [4,5,37,45,74,79,11900,13500])
 (.block 2 (.loop bQ.l1)))
 (.shut [45,74] (.ak [Qf 80 2 5,Ql 81 80,Qm 82 7,Qm 83 8,Qa 84 7 81 82,Qf 85 5 84,Qs 1 85 83] [4,5,6,7] [4,5,37,79,11900,13500])))))
 (.ak [Qm 43 7,Q 44 (.bin .add (.t 43) (kI 1)),Qm 7 44] [4,5,6,7] [4,5,37,79,11900,13500]))
def bQ.b:C:= .seq (.ak [Qv 2 0,Qv 3 1,Q 4 (.alloc [.int .i64 0,.int .i64 0,.aK 7,.aK 1])] [2,3,4] [2,3,4,11900,13500])
 (.seq (.gw [Qf 11 0 2,Ql 12 11,Qf 13 1 2,Ql 14 13,Qf 15 3 2,Ql 16 15,Qf 17 3 3,Ql 18 17,Q 19 (.call 43 [.t 16,.t 18] [] [(0,11900)]),
   Q 20 (.build [.int .i64 0,.int .i64 0,.aK 7,.aK 1] [(0,1,.t 12),(1,1,.t 14),(3,1,.t 19)]),Q 5 (.alloc [.int .i64 0,.int .i64 0,.aK 7,.aK 1]),Qs 4 5 20] [[],[0],[],[2],[],[4],[],[6],[4,5,6,7],lr 9,[],lr 11] [2,3,4,5] [2,3,4,5,11900,13500])
 (.seq (.seq (.ak [Qf 21 1 3,Ql 22 21,Qf 23 1 2,Ql 24 23,Q 25 (.bin .gtr (.t 22) (.t 24))] [2,3,4,5,25] [2,3,4,5,11900,13500])
 (.cond (.t 25) (.ak [Qf 26 1 3,Ql 27 26,Qf 28 1 5,Qs 1 28 27] [2,3,4,5] [2,3,4,5,11900,13500]) (.skip)))
 (.seq (.shut [11900] (.ak [Qf 29 2 2,Ql 30 29,Qf 31 2 3,Ql 32 31,Qf 33 3 5,Ql 34 33,Q 35 (.call 466 [.t 30,.t 32,.t 34] [] [(0,13500)]),Qf 36 2 5,Qs 1 36 35] [4,5] [4,5,11900,13500]))
 (.seq (.ak [Q 37 (.bM 1 0 [.int .i64 0] []),Qm 6 37] [4,5,6] [4,5,37,79,11900,13500])
 (.seq (.seq (.ak [Qi 7 0] [4,5,6,7] [4,5,37,79,11900,13500])
 (.block 0 (.loop bQ.l0)))
 (.seq (.ak [QL 86 4 5,Qs 4 4 86] [4] [4,11900,13500])
 (.ret)))))))
def bQ.m:Fn:={np:=2,body:=bQ.b,res:=[.cell 4 true 4]}
def bQ.k(M:Nat→Option Body):Prop:=M 446=some (.code bQ.m)∧aU.k M∧bj.k M∧aY.k M
def fu.b:C:= .seq (.ak [Qv 2 0,Qv 3 1,Qb 4 false] [2,3] [2,3])
 (.seq (.ak [QL 5 4 2,Q 6 (.call 149 [.t 5] [] []),Qm 7 6,Qg 8 (.load true 4 (.t 3)) 7 true,Qg 9 (.call 149 [.t 8] [] []) 7 true,Q 10 (.pick (.t 7) (.t 9) (kB false)),Qm 11 10,
   Qg 12 (.load true 4 (.t 2)) 11 true,Qg 13 (.load true 4 (.t 3)) 11 true,Qg 14 (.call 446 [.t 12,.t 13] [] []) 11 true,Qg 15 (.call 149 [.t 14] [] []) 11 true,
   Q 16 (.pick (.t 11) (.t 15) (kB false)),Qm 4 16] [4] [])
 (.ret))
def fu.m:Fn:={np:=2,body:=fu.b,res:=[.tmp 4]}
def fu.k(M:Nat→Option Body):Prop:=M 432=some (.code fu.m)∧aL.k M∧bQ.k M
def jf.b:C:= .seq (.ak [Qv 2 0,Qb 3 false] [1,2] [2])
 (.seq (.ak [Qf 4 0 2,Ql 5 4,Ql 6 1,Q 7 (.bin .eql (.t 5) (.t 6)),Qm 3 7] [3] [])
 (.ret))
def jf.m:Fn:={np:=2,body:=jf.b,res:=[.tmp 3]}
def jf.k(M:Nat→Option Body):Prop:=M 199=some (.code jf.m)
def gV.b:C:= .seq (.ak [Qv 2 0,Qv 3 1,Qi 4 0] [2,3] [2,3])
 (.seq (.ak [Qf 5 2 2,Ql 6 5,Q 7 (.ud 199 [.t 3]),Q 8 (.call 200 [.t 6,.t 7] [] []),Qm 4 8] [4] [])
 (.ret))
def gV.m:Fn:={np:=2,body:=gV.b,res:=[.tmp 4]}
def gV.k(M:Nat→Option Body):Prop:=M 95=some (.code gV.m)∧jf.k M∧aB.k M
end Mx
namespace Mx
open Go
variable {P:Program} {F:Nat→FuncId}
def CN(as:List V)(lent:List (Nat×Ob)):Option (V×List (Nat×Ob)):=match as,lent with
 |[.c (.row 0 0 0 len),.c (.int .i64 i),.c (.row 2 2 0 1)],[(0,ob),(2,ob2)]=>
  if(ob.sz=7∧ob.bx=false∧len≤ob.rows.length∧0≤i∧i≤(len:Int)∧len≤1048576)∧ob2.sz=7∧ob2.bx=false∧ob2.rows.length=1 then
   some (.c (.sl true 7 (ob.rows.take i.toNat++ob2.rows++(ob.rows.take len).drop i.toNat)),[(2,ob2)]) else none
 |_,_=>none
theorem lU{b:Nat}{e:TypeId}{fr:Nat×Nat}:∀(vs:List Value) (o:Nat) (cs:Array Value) (w:World),w.heap[b]? =some (.cells cs e fr)→o+vs.length≤cs.size→
  ∃cs',(w.setCells b o vs).heap[b]? =some (.cells cs' e fr)∧cs'.size=cs.size∧(∀q,cs'[q]? =if o≤q∧q<o+vs.length then vs[q-o]? else cs[q]?)∧
   (w.setCells b o vs).os=w.os∧(w.setCells b o vs).tape=w.tape∧(w.setCells b o vs).output=w.output∧(w.setCells b o vs).heap.size=w.heap.size∧∀k,k≠b→(w.setCells b o vs).heap[k]? =w.heap[k]?
 |[],o,cs,w,hb,hl=>⟨cs,hb,rfl,fun q=>by rw[if_neg (by simp)],rfl,rfl,rfl,rfl,fun _ _=>rfl⟩
 |v::vs,o,cs,w,hb,hl=>by
  simp only[bK] at hl;have hb':(w.setCell ⟨b,o,none⟩ v).heap[b]? =some (.cells (cs.setIfInBounds o v) e fr):=by
   simp only[World.setCell,Array.getElem?_modify,hb];simp
  obtain⟨cs',g1,g2,g3,g4,g5,g6,g7,g8⟩:=lU vs (o+1) (cs.setIfInBounds o v) _ hb' (by simpa using(by omega));refine⟨cs',g1,by rw[g2];simp,fun q=> ?_,g4,g5,g6,by rw[World.setCells,g7];simp[World.setCell],fun k hk=> ?_⟩
  ·rw[g3 q,Array.getElem?_setIfInBounds];by_cases r:o+1≤q∧q<o+1+vs.length
   ·rw[if_pos r,if_pos ⟨by omega,by simp only[bK];omega⟩];obtain⟨p,rfl⟩:∃p,q=o+(p+1):=⟨q-o-1,by omega⟩
    rw[show o+(p+1)-o=p+1 from by omega,show o+(p+1)-(o+1)=p from by omega];simp
   ·rw[if_neg r];by_cases e:o=q
    ·subst e;rw[if_pos rfl,if_pos (by omega),if_pos ⟨Nat.le_refl _,by simp⟩];simp
    ·rw[if_neg e,if_neg (by simp only[bK];omega)]
  ·rw[World.setCells,g8 k hk];simp only[World.setCell,Array.getElem?_modify];rw[if_neg (fun e=>hk e.symm)]
structure tQ (w w':World) (b:Option Nat) (b' cap':Nat) (R:List Value):Prop where
 os:w'.os=w.os
 tape:w'.tape=w.tape
 output:w'.output=w.output
 size:w.heap.size≤w'.heap.size
 lt:b'<w'.heap.size
 loc:b=some b'∨w.heap.size≤b'
 frame:∀k,k<w.heap.size→b≠some k→w'.heap[k]? =w.heap[k]?
 mem:∃cs e fr,w'.heap[b']? =some (.cells cs e fr)∧cs.size=cap'*7∧(∀o,o≤cs.size→¬(fr.1≤o∧o<fr.2))∧∀(j:Nat) (v:Value),R[j]? =some v→cs[j]? =some v
theorem DH{X:Cx}{ob:Ob}{b cap:Nat}(h:ti X ob b cap)(hz:ob.sz=7){arr:Array Value}{e:TypeId}{fr:Nat×Nat}(hm:X.w.heap[b]? =some (.cells arr e fr))(n:Nat)(hn:n≤ob.rows.length):
  iz X (ob.rows.take n).flatten (arr.toList.take (n*7))∧(arr.toList.take (n*7)).length=n*7:=by
 obtain⟨h1,h2,h3,cs,e',fr',m1,m2,m3,m4⟩:=h;rw[m1] at hm;cases hm;rw[hz] at m2 h2 m4;have hw:∀(i:Nat) (r:List T),(ob.rows.take n)[i]? =some r→r.length=7:=qC h2;have hfl:=lI hw;have htl:(ob.rows.take n).length=n:=by simp;omega
 rw[htl] at hfl;have hlen:(arr.toList.take (n*7)).length=n*7:=by
  have:n*7≤cap*7:=cC 7 (by omega);simp;omega
 refine⟨⟨by rw[hfl,hlen],fun q t v ht hv=> ?_⟩,hlen⟩;have hq:q<n*7:=by rw[←hfl];exact(List.getElem?_eq_some_iff.1 ht).1
 obtain⟨i,j,r,t',rfl,k1,k2,k3⟩:=qZ hw (by omega) (by rw[htl];exact hq);rw[ht] at k3;cases k3;rw[cp] at k1;split at k1
 ·obtain⟨v',q1,q2⟩:=m4 i j r _ k1 k2;rw[cp,if_pos hq,Array.getElem?_toList,q1] at hv;cases hv;exact q2
 ·cases k1
section
variable {Pr:Nat→Prop} {E0:Nat→Option Loc} {vals:Array Value} {w w':World}
theorem GN{len:Nat}{i:Int}{ob ob2:Ob}(En:Entry F Pr E0 [.c (.row 0 0 0 len),.c (.int .i64 i),.c (.row 2 2 0 1)] [(0,ob),(2,ob2)] vals w)
  (h2x:ob2.bx=false) (hb:Option Nat) (hb0:∀b,hb=some b→∃cap,E0 0=some (.kS b cap 7)) {b' cap':Nat} {R:List Value} (O:tQ w w' hb b' cap' R)
  {rows:List (List T)} (hrl:rows.length≤cap') (hrw:∀(i:Nat) (r:List T),rows[i]? =some r→r.length=7) (hrc:∀(i j:Nat) (r:List T) (t:T),rows[i]? =some r→r[j]? =some t→fx t)
  (hR:iz (cx F Pr E0 [(0,ob),(2,ob2)] w) rows.flatten R):
  ∃val E' own,Ending.returned (.slice (some (ie b')) rows.length cap')= .returned val∧Dl F Pr E0 [(0,ob),(2,ob2)] w E' own (.c (.sl true 7 rows)) [(2,ob2)] val w':=by
 obtain⟨v1,_,w1,l1,hl1,hr1⟩:=En.oo 0 ob (by simp[get]);obtain⟨v2,_,w2,l2,hl2,hr2⟩:=En.oo 2 ob2 (by simp[get]);have hlb0:∀b,hb=some b→uI [(0,ob),(2,ob2)] E0 b:=fun b h=>by
  obtain⟨cap,h0⟩:=hb0 b h;exact⟨0,ob,cap,7,by simp[get],by rw[v1];exact h0⟩
 have hd:∀b cap sz,l2= .kS b cap sz→hb≠some b:=fun b cap sz h hq=>by
  obtain⟨cap0,h0⟩:=hb0 b hq;rw[h] at hl2;have:=En.pJ 0 2 ob ob2 b cap0 7 cap sz (by simp[get]) (by simp[get]) (by rw[v1];exact h0) (by rw[v2];exact hl2);omega
 have K:mR (cx F Pr E0 [(0,ob),(2,ob2)] w) (rx F Pr E0 [(0,ob),(2,ob2)] E0 (fun q=>if q=0 then some (.kS b' cap' 7) else none) w'):=by
  refine⟨rfl,fun _ _ h=>h,fun ad v hu hcell=> ?_⟩;have hlt:ad.block<w.heap.size:=AF hcell;have hnl:¬uI [(0,ob),(2,ob2)] E0 ad.block:=by
   rintro ⟨p,ob',cap,sz,h1,h2⟩;refine hu (.inl ⟨p,ob',cap,sz,h1, ?_,h2⟩);simp only[get] at h1;split at h1
   ·cases h1;exact w1
   ·split at h1
    ·cases h1;exact w2
    ·cases h1
  refine⟨(pd (O.frame _ hlt fun q=>hnl (hlb0 _ q))).trans hcell, ?_⟩;rintro (h|h|⟨q,cap,sz,h⟩)
  ·exact hnl h
  ·exact hu (.inr h)
  ·simp only at h;split at h
   ·simp only[aH,Loc.kS.injEq] at h;rcases O.loc with z|z
    ·exact hnl (by rw[←h.1];exact hlb0 _ z)
    ·omega
   ·cases h
 obtain⟨cs,e,fr,m1,m2,m3,m4⟩:=O.mem;refine⟨.slice (some (ie b')) rows.length cap',E0,fun q=>if q=0 then some (.kS b' cap' 7) else none,rfl,O.os,O.tape,O.output,O.size, ?_,fun _ _ h=>h, ?_, ?_, ?_, ?_⟩
 ·intro k hk hn;exact O.frame k hk fun q=>hn (hlb0 k q)
 ·intro q b cap sz h;split at h
  ·simp only[aH,Loc.kS.injEq] at h;obtain⟨rfl,rfl,rfl⟩:=h;refine⟨?_,O.lt⟩;rcases O.loc with z|z
   ·obtain⟨cap0,h0⟩:=hb0 _ z;exact .inr ⟨0,ob,cap0,7,by simp[get],by simp[get],by rw[v1];exact h0⟩
   ·exact .inl z
  ·cases h
 ·intro q q' b cap sz cap2 sz2 h h';split at h
  ·split at h'
   ·omega
   ·cases h'
  ·cases h
 ·simp only[yW,wD];refine tO.own 7 rows (.kS b' cap' 7) (by simp) ⟨rfl, ?_⟩;exact sY (ob:={cG:=0,sz:=7,w:=true,bx:=false,rows:=rows}) hrl hrw (hR.mono K) m1 m2 m3 m4 fun _=>hrc
 ·intro p o1 o2 l hg ha hE;simp only[get] at hg ha;split at ha
  ·rename_i hp2;subst hp2;cases ha;have hg':ob2=o1:=by simpa using hg
   subst hg';rw[hE] at hl2;cases hl2;have hclo:∀(i j:Nat) (r:List T) (t:T),ob2.rows[i]? =some r→r[j]? =some t→fx t:=by
    intro i j r t hi hj;cases l2 with
    |nil=>have:=hr2.1;rw[this] at hi;simp at hi
    |kS b cap sz=>exact hr2.2.cl h2x i j r t hi hj
   refine⟨?_,hclo⟩;cases l2 with
   |nil=>exact hr2
   |kS b cap sz=>
    refine⟨hr2.1,hr2.2.mono K ?_⟩;exact O.frame b (En.place 2 ob2 b cap sz (by simp[get]) (by rw[v2];exact hE)) (hd b cap sz rfl)
  ·cases ha
theorem EP{w1:World}{b o cap:Nat}{arr:Array Value}{e:TypeId}{fr:Nat×Nat}{vs R:List Value}(hm:w.heap[b]? =some (.cells arr e fr))(hs:arr.size=cap*7)(hf:∀o,o≤arr.size→¬(fr.1≤o∧o<fr.2))
  (hl:o+vs.length≤arr.size) (hw:w1=w.setCells b o vs) (hR:∀(j:Nat) (v:Value),R[j]? =some v→(if o≤j∧j<o+vs.length then vs[j-o]? else arr[j]?)=some v):tQ w w1 (some b) b cap R:=by
 obtain⟨cs',g1,g2,g3,g4,g5,g6,g7,g8⟩:=lU vs o arr w hm hl;subst hw;have hb:b<w.heap.size:=by
  rcases Nat.lt_or_ge b w.heap.size with q|q
  ·exact q
  ·rw[Array.getElem?_eq_none q] at hm;cases hm
 exact⟨g4,g5,g6,by rw[g7];exact Nat.le_refl _,by rw[g7];exact hb,.inl rfl,fun k _ hn=>g8 k fun q=>hn (by rw[q]),cs',e,fr,g1,by rw[g2];exact hs,fun o ho=>hf o (by omega),fun j v hj=>by rw[g3];exact hR j v hj⟩
theorem xl{cs vs:List Value}{k:Nat}(hk:k≤cs.length)(hv:vs.length=7){j:Nat}{v:Value}(h:(cs.take k++vs++cs.drop k)[j]? =some v):
  (j<k∧cs[j]? =some v)∨(k≤j∧j<k+7∧vs[j-k]? =some v)∨(k+7≤j∧j<cs.length+7∧(cs.drop k)[j-(k+7)]? =some v):=by
 have h1:(cs.take k).length=k:=by simp;omega
 have hj:j<(cs.take k++vs++cs.drop k).length:=(List.getElem?_eq_some_iff.1 h).1;simp only[ax,h1,hv,List.length_drop] at hj;rw[bN,dQ] at h;split at h
 ·rename_i c;rw[h1] at c;rw[cp,if_pos c] at h;exact .inl ⟨c,h⟩
 ·rename_i c;rw[h1] at c h;rw[dQ] at h;split at h
  ·rename_i c2;exact .inr (.inl ⟨by omega,by omega,h⟩)
  ·rename_i c2;refine .inr (.inr ⟨by omega,by omega, ?_⟩);rw[hv] at h;rw[show j-(k+7)=j-k-7 by omega];exact h
theorem JA{f:Nat}{tS tE:TypeId}{bytes:Nat}{zero:List T}(hf:yP P F f=true)(he:iW P tS=some tE)(hsz:lg P tE=some 7)(hby:pV P tE=some bytes)(hbytes:bytes≤4096)(hz:wR P zero tE=true)
  (hEnd:∀(base:Option Addr) (n c vb vc:Nat) (w w1:World) (val:Value),(base=none→n=0)→(∀a,base=some a→∃b,a=⟨b,0,none⟩)→n≤c→
   (∀ty,(Builtin.append_ #[tS,tS] ty #[.slice base n c,.slice (some ⟨vb,0,none⟩) 1 vc]).run P w= .ok val w1)→Calls P (F f) #[.slice base n c,.int .i64 n,.slice (some ⟨vb,0,none⟩) 1 vc] w fun e w'=>e= .returned val∧w'=w1)
  (hShift:∀(b n c i vb vc:Nat) (cs vs:List Value) (w:World),i<n→n+1≤c→n≤1048576→vb≠b→cs.length=n*7→vs.length=7→(∀j v,cs[j]? =some v→w.cell? ⟨b,j,none⟩=some v)→
   (∀j,j<(n+1)*7→(w.cell? ⟨b,j,none⟩).isSome=true)→(∀j,j<(n+1)*7→w.frozen? ⟨b,j,none⟩=false)→(∀j v,vs[j]? =some v→w.cell? ⟨vb,j,none⟩=some v)→(∀v∈cs,v.oneCell'=true)→(∀v∈vs,v.oneCell'=true)→
   ∀(tA tB:TypeId) (kA kB:Nat),w.shape? vb=some (tA,kA)→w.shape? b=some (tB,kB)→kB≠0→w.frozen? ⟨vb,0,none⟩=false→w.frozen? ⟨vb,kA,none⟩=false→
   Calls P (F f) #[.slice (some ⟨b,0,none⟩) n c,.int .i64 i,.slice (some ⟨vb,0,none⟩) 1 vc] w fun e w'=>
    e= .returned (.slice (some ⟨b,0,none⟩) (n+1) c)∧w'=(w.drew.setCells b ((i+1)*7) (cs.drop (i*7))).setCells b (i*7) vs)
  (hGrow:∀(b n c i vb vc:Nat) (cs vs:List Value) (w:World),i<n→n≤c→c<n+1→n≤1048576→cs.length=n*7→vs.length=7→(∀j v,cs[j]? =some v→w.cell? ⟨b,j,none⟩=some v)→(∀j v,vs[j]? =some v→w.cell? ⟨vb,j,none⟩=some v)→
   (∀v∈cs,v.oneCell'=true)→(∀v∈vs,v.oneCell'=true)→
   Calls P (F f) #[.slice (some ⟨b,0,none⟩) n c,.int .i64 i,.slice (some ⟨vb,0,none⟩) 1 vc] w fun e w'=>
    ∃(G:Nat) (row:Array Value),n+1≤G∧row.size=G*7∧e= .returned (.slice (some ⟨w.heap.size,0,none⟩) (n+1) G)∧(∀j,j<i*7→row[j]? =cs[j]?)∧
    w'=(((w.alloc (.cells row tE)).drew.setCells w.heap.size (i*7) vs).drew).setCells w.heap.size ((i+1)*7) (cs.drop (i*7))):wv P F f CN:=by
 intro as lent res after hg;refine⟨hf,fun Pr E0 vals w En=> ?_⟩;unfold CN at hg;split at hg;rotate_left
 ·cases hg
 rename_i len i ob ob2;split at hg;rotate_left
 ·cases hg
 rename_i hc;cases hg;obtain⟨⟨c1,c2,c3,c4,c5,c6⟩,c7,c8,c9⟩:=hc;obtain⟨m,rfl⟩:∃m:Nat,i=(m:Int):=⟨i.toNat,by omega⟩
 have hm:m≤len:=by omega
 simp only[fy];have hn:vals.size=3:=En.n.symm;obtain⟨x0,x1,x2,rfl⟩:∃x0 x1 x2,vals= #[x0,x1,x2]:=by
  obtain⟨l⟩:=vals
  match l,hn with
  |[a,b,c],_=>exact⟨a,b,c,rfl⟩
 have a0:=En.args 0 _ x0 rfl rfl;have a1:=En.args 1 _ x1 rfl rfl;have a2:=En.args 2 _ x2 rfl rfl;obtain⟨v1,_,w1,l1,hl1,hr1⟩:=En.oo 0 ob (by simp[get]);obtain⟨v2,_,w2,l2,hl2,hr2⟩:=En.oo 2 ob2 (by simp[get]);have hx1:x1= .int .i64 m:=by cases a1 with|c _ _ h=>cases h;rfl
 subst hx1;cases a2 with
 |c _ _ a2=>
 cases a2 with
 |row _ _ _ _ vcap vsz vb hvE _ _=>
 have hvE':E0 2=some (.kS vb vcap vsz):=hvE;rw[hvE'] at hl2;cases hl2;obtain⟨e2,hob2⟩:=hr2;rw[c7] at e2;subst e2;obtain⟨yy,et2,fr2,n1,n2,n3,n4⟩:=hob2.mem;rw[c7] at n2 n4;have hvl1:1≤vcap:=by have:=hob2.len;omega
 obtain⟨hV,hVl⟩:=DH hob2 c7 n1 1 (by omega);rw[aa (by omega:ob2.rows.length≤1)] at hV;simp only[Nat.one_mul] at hV hVl;obtain⟨vs,hvs⟩:∃vs,vs=yy.toList.take 7:=⟨_,rfl⟩
 rw[←hvs] at hV hVl;have n1':w.heap[vb]? =some (.cells yy et2 fr2):=n1;have hvcell:∀(j:Nat) (v:Value),vs[j]? =some v→w.cell? ⟨vb,j,none⟩=some v:=by
  intro j v hj;rw[hvs,cp] at hj;split at hj
  ·rw[Array.getElem?_toList] at hj;simp only[World.cell?,n1',Option.isSome_none,au,if_false];exact hj
  ·cases hj
 have hfzv:∀o,o≤yy.size→w.frozen? ⟨vb,o,none⟩=false:=by
  intro o ho;have:=n3 o ho;simp only[World.frozen?,n1',Bool.and_eq_false_iff,decide_eq_false_iff_not];omega
 have hx2:(Value.slice (some ((ie vb).add (0*7))) 1 (vcap-0))= .slice (some ⟨vb,0,none⟩) 1 vcap:=by
  rw[lB];simp
 rw[hx2] at En ⊢;have hrows:∀(k:Nat) (r:List T),(ob.rows.take m++ob2.rows++(ob.rows.take len).drop m)[k]? =some r→(∃k':Nat,ob.rows[k']? =some r)∨∃k':Nat,ob2.rows[k']? =some r:=by
  intro k r h;rcases List.mem_append.1 (ji h) with q|q
  ·rcases List.mem_append.1 q with q|q
   ·exact .inl (List.getElem?_of_mem (List.mem_of_mem_take q))
   ·exact .inr (List.getElem?_of_mem q)
  ·exact .inl (List.getElem?_of_mem (List.mem_of_mem_take (List.mem_of_mem_drop q)))
 have hlenR:(ob.rows.take m++ob2.rows++(ob.rows.take len).drop m).length=len+1:=by simp[c9];omega
 have hw2:∀(k:Nat) (r:List T),ob2.rows[k]? =some r→r.length=7:=by have:=hob2.width;rwa [c7] at this
 have fin:∀(hb:Option Nat) (hb0:∀b,hb=some b→∃cap,E0 0=some (.kS b cap 7)) (b' cap':Nat) (R:List Value) (w':World),tQ w w' hb b' cap' R→len+1≤cap'→
   (∀(k j:Nat) (r:List T) (t:T),ob.rows[k]? =some r→r[j]? =some t→fx t)→(∀(k:Nat) (r:List T),ob.rows[k]? =some r→r.length=7)→
   iz (cx F Pr E0 [(0,ob),(2,ob2)] w) (ob.rows.take m++ob2.rows++(ob.rows.take len).drop m).flatten R→
   ∃val E' own,Ending.returned (.slice (some (ie b')) (len+1) cap')= .returned val∧Dl F Pr E0 [(0,ob),(2,ob2)] w E' own (.c (.sl true 7 (ob.rows.take m++ob2.rows++(ob.rows.take len).drop m))) [(2,ob2)] val w':=by
  intro hb hb0 b' cap' R w' O hcap hcl hwd hR;have:=GN En c8 hb hb0 O (rows:=ob.rows.take m++ob2.rows++(ob.rows.take len).drop m) (by rw[hlenR];exact hcap) (fun k r h=>by
   rcases hrows k r h with⟨k',q⟩|⟨k',q⟩
   ·exact hwd k' r q
   ·exact hw2 k' r q) (fun k j r t h hj=>by
   rcases hrows k r h with⟨k',q⟩|⟨k',q⟩
   ·exact hcl k' j r t q hj
   ·exact hob2.cl c8 k' j r t q hj) hR
  rw[hlenR] at this;exact this
 obtain⟨zv,hzv,hzr,hzs,_⟩:=oL (P:=P) (X:=cx F Pr E0 [(0,ob),(2,ob2)] w) hz;have hzc:zv.cells.size=7:=by
  rw[hsz] at hzs;have h1:=hzr.1;simp at h1;have:=Option.some.inj hzs;omega
 have hlv:(Builtin.lenOf (.slice (some ⟨vb,0,none⟩) 1 vcap)).run P w= .ok 1 w:=by simp[Builtin.lenOf]
 have hnew:∀q,(Builtin.firstCells 7 1 (.slice (some ⟨vb,0,none⟩) 1 vcap)).run P {w with drawn:=q}= .ok vs.toArray {w with drawn:=q}:=fun q=>
  run_firstCells_some (P:=P) (w:={w with drawn:=q}) 7 1 ⟨vb,0,none⟩ 1 vcap vs (by omega) (fun j v hj=>by rw[show (⟨vb,0,none⟩:Addr)=ie vb from rfl,lB];exact hvcell j v hj)
 cases a0 with
 |c _ _ a0=>
 cases a0 with
 |ox _ _ hE=>
  have hE':E0 0=some .nil:=hE;rw[hE'] at hl1;cases hl1;have hrn:ob.rows=[]:=hr1.1;have hm0:m=0:=by omega
  subst hm0;have hgo:=(vz (P:=P) (w:=w) (tyr:=tS) (base:=none) (sLen:=0) (sCap:=0) he hsz (jZ he) (fun k=>by simp) hby hzv hzc hbytes (k:=1) (by omega) hlv hnew (nk:= #[]) (by intro q;simp[Builtin.firstCells]) (by simp) (by simp[hVl])).2 (by omega);obtain⟨cap,rest,w1,hcap,hrest,f1,f2,f3,f4,hr⟩:=hgo;refine(hEnd none 0 0 vb vcap w w1 _ (fun _=>rfl) (fun a h=>by cases h) (Nat.le_refl _) (fun ty=>hr)).mono ?_;rintro e w' ⟨rfl,rfl⟩;have O:tQ w w' none w.heap.size cap vs:=by
   refine⟨f1,f2,f3,by rw[f4];simp,by rw[f4];simp,.inr (Nat.le_refl _),fun k hk _=>by rw[f4,Array.getElem?_push,if_neg (by omega)],#[]++vs.toArray++rest,tE,(0,0),by rw[f4];exact Array.getElem?_push_size, ?_,by simp,fun j v hj=> ?_⟩
   ·simp only[Array.empty_append,Array.size_append,List.size_toArray,hVl,hrest];omega
   ·rw[Array.empty_append,Array.getElem?_append_left (by simpa using(List.getElem?_eq_some_iff.1 hj).1)];simpa using hj
  refine fin none (fun b h=>by cases h) w.heap.size cap vs w' O (by omega) (fun k j r t h=>by rw[hrn] at h;simp at h) (fun k r h=>by rw[hrn] at h;simp at h) ?_;simpa [hrn] using hV
 |row _ _ _ _ cap sz b hE hfit _=>
  have hE':E0 0=some (.kS b cap sz):=hE;rw[hE'] at hl1;cases hl1;obtain⟨e1,hob⟩:=hr1;rw[c1] at e1;subst e1;obtain⟨arr,et,fr,m1,m2,m3,m4⟩:=hob.mem;rw[c1] at m2 m4;have m1':w.heap[b]? =some (.cells arr et fr):=m1;have hcl:∀(k j:Nat) (r:List T) (t:T),ob.rows[k]? =some r→r[j]? =some t→fx t:=hob.cl c2;have hwd:∀(k:Nat) (r:List T),ob.rows[k]? =some r→r.length=7:=by have:=hob.width;rwa [c1] at this
  have hlc:len≤cap:=by have:=hob.len;omega
  obtain⟨hC,hCl⟩:=DH hob c1 m1 len c3;obtain⟨cs,hcs⟩:∃cs,cs=arr.toList.take (len*7):=⟨_,rfl⟩
  rw[←hcs] at hC hCl;have hccell:∀(j:Nat) (v:Value),cs[j]? =some v→arr[j]? =some v:=by
   intro j v hj;rw[hcs,cp] at hj;split at hj
   ·rwa [Array.getElem?_toList] at hj
   ·cases hj
  have hbcell:∀(j:Nat) (v:Value),cs[j]? =some v→w.cell? ⟨b,j,none⟩=some v:=by
   intro j v hj;simp only[World.cell?,m1',Option.isSome_none,au,if_false];exact hccell j v hj
  have hfz:∀o,o≤arr.size→w.frozen? ⟨b,o,none⟩=false:=by
   intro o ho;have:=m3 o ho;simp only[World.frozen?,m1',Bool.and_eq_false_iff,decide_eq_false_iff_not];omega
  have h7:m*7≤cs.length:=by rw[hCl];omega
  have hx0:(Value.slice (some ((ie b).add (0*7))) len (cap-0))= .slice (some ⟨b,0,none⟩) len cap:=by
   rw[lB];simp
  rw[hx0];have hR:iz (cx F Pr E0 [(0,ob),(2,ob2)] w) (ob.rows.take m++ob2.rows++(ob.rows.take len).drop m).flatten (cs.take (m*7)++vs++cs.drop (m*7)):=by
   have hsp:(ob.rows.take len).flatten=(ob.rows.take m).flatten++((ob.rows.take len).drop m).flatten:=by
    rw[←List.flatten_append];congr 1;have:=(cr m (ob.rows.take len)).symm
    rwa [List.take_take,Nat.min_eq_left hm] at this
   have hfl:(ob.rows.take m).flatten.length=m*7:=by
    have:=lI (sz:=7) (rows:=ob.rows.take m) (qC hwd);rw[this];simp;omega
   have hA:=hC.take (m*7);have hD:=hC.drop (m*7);rw[hsp,List.take_left' hfl] at hA;rw[hsp,List.drop_left' hfl] at hD;rw[List.flatten_append,List.flatten_append];exact(hA.append hV).append hD
  have hbs:b<w.heap.size:=by
   rcases Nat.lt_or_ge b w.heap.size with q|q
   ·exact q
   ·rw[Array.getElem?_eq_none q] at m1';cases m1'
  have hb0:∀b_1,some b=some b_1→∃cap,E0 0=some (.kS b_1 cap 7):=fun b1 h=>by cases h;exact⟨cap,hE'⟩
  have hbA:(⟨b,0,none⟩:Addr)=ie b:=rfl;by_cases hme:m=len
  ·subst hme;have hold:∀q,(Builtin.firstCells 7 m (.slice (some (ie b)) m cap)).run P {w with drawn:=q}= .ok cs.toArray {w with drawn:=q}:=fun q=>
    run_firstCells_some (P:=P) (w:={w with drawn:=q}) 7 m (ie b) m cap cs hCl (fun j v hj=>by rw[lB];exact hbcell j v hj)
   have hgo:=vz (P:=P) (w:=w) (tyr:=tS) (base:=some (ie b)) (sLen:=m) (sCap:=cap) he hsz (jZ he) (fun k=>by simp) hby hzv hzc hbytes (k:=1) (by omega) hlv hnew (nk:=cs.toArray) hold (by simp[hCl]) (by simp[hVl]);have hcsd:cs.drop (m*7)=[]:=eO (by omega);have hcst:cs.take (m*7)=cs:=aa (by omega);by_cases hroom:m+1≤cap
   ·have hst:=run_storeCells_cells (P:=P) b (m*7) vs 0 w (fun j hj=>by
      rw[World.cell?,m1'];simp only[Option.isSome_none,au,if_false];rw[Array.getElem?_eq_getElem (by rw[m2];omega)];rfl) (fun j hj=>hfz _ (by rw[m2];omega)) hV.one
    have hrun:=hgo.1 hroom (w.setCells b (m*7+0) vs) (by simp only;rw[lB];exact hst);refine(hEnd (some ⟨b,0,none⟩) m cap vb vcap w _ _ (fun h=>by cases h) (fun a h=>⟨b,(Option.some.inj h).symm⟩) hlc (fun ty=>hrun)).mono ?_;rintro e w' ⟨rfl,rfl⟩;refine fin (some b) hb0 b cap _ _ (EP (o:=m*7) (vs:=vs) m1' m2 m3 (by rw[m2,hVl];omega) rfl fun j v hj=> ?_) hroom hcl hwd hR;rcases xl h7 hVl hj with⟨q1,q2⟩|⟨q1,q2,q3⟩|⟨q1,q2,q3⟩
    ·rw[if_neg (by omega)];exact hccell j v q2
    ·rw[if_pos ⟨by omega,by omega⟩];simpa using q3
    ·rw[hcsd] at q3;simp at q3
   ·obtain⟨cap2,rest,w1,hcap,hrest,f1,f2,f3,f4,hr⟩:=hgo.2 (by omega);refine(hEnd (some ⟨b,0,none⟩) m cap vb vcap w w1 _ (fun h=>by cases h) (fun a h=>⟨b,(Option.some.inj h).symm⟩) hlc (fun ty=>hr)).mono ?_;rintro e w' ⟨rfl,rfl⟩;have O:tQ w w' none w.heap.size cap2 (cs.take (m*7)++vs++cs.drop (m*7)):=by
     refine⟨f1,f2,f3,by rw[f4];simp,by rw[f4];simp,.inr (Nat.le_refl _),fun k hk _=>by rw[f4,Array.getElem?_push,if_neg (by omega)],cs.toArray++vs.toArray++rest,tE,(0,0),by rw[f4];exact Array.getElem?_push_size, ?_,by simp,fun j v hj=> ?_⟩
     ·simp only[Array.size_append,List.size_toArray,hVl,hCl,hrest];omega
     ·rw[hcsd,hcst,dp] at hj;have hjl:j<(cs++vs).length:=(List.getElem?_eq_some_iff.1 hj).1;have e3:cs.toArray++vs.toArray=(cs++vs).toArray:=by simp
      rw[e3,Array.getElem?_append_left (by simpa using hjl)];simpa using hj
    exact fin none (fun b h=>by cases h) w.heap.size cap2 _ w' O hcap hcl hwd hR
  ·have hml:m<len:=by omega
   by_cases hroom:len+1≤cap
   ·refine(hShift b len cap m vb vcap cs vs w hml hroom c6 ?_ hCl hVl hbcell ?_ ?_ hvcell hC.one hV.one et2 et yy.size arr.size ?_ ?_ ?_ (hfzv 0 (Nat.zero_le _)) (hfzv _ (Nat.le_refl _))).mono ?_
    ·intro q;have:=En.pJ 0 2 ob ob2 b cap 7 vcap 7 (by simp[get]) (by simp[get]) (by rw[v1];exact hE') (by rw[v2,hvE',q]);omega
    ·intro j hj;rw[World.cell?,m1'];simp only[Option.isSome_none,au,if_false];have:(len+1)*7≤cap*7:=cC 7 hroom;rw[Array.getElem?_eq_getElem (by rw[m2];omega)];rfl
    ·intro j hj;have:(len+1)*7≤cap*7:=cC 7 hroom;exact hfz _ (by rw[m2];omega)
    ·simp[World.shape?,n1']
    ·simp[World.shape?,m1']
    ·rw[m2];omega
    ·rintro e w' ⟨rfl,rfl⟩;have hdl:(cs.drop (m*7)).length=len*7-m*7:=by rw[List.length_drop,hCl]
     have h8:(len+1)*7≤cap*7:=cC 7 hroom;obtain⟨arr3,g1,g2,g3,g4,g5,g6,g7,g8⟩:=lU (cs.drop (m*7)) ((m+1)*7) arr w.drew m1' (by rw[hdl,m2];omega);obtain⟨arr4,k1,k2,k3,k4,k5,k6,k7,k8⟩:=lU vs (m*7) arr3 _ g1 (by rw[hVl,g2,m2];omega);have O:tQ w ((w.drew.setCells b ((m+1)*7) (cs.drop (m*7))).setCells b (m*7) vs) (some b) b cap (cs.take (m*7)++vs++cs.drop (m*7)):=by
      refine⟨k4.trans g4,k5.trans g5,k6.trans g6,by rw[k7,g7];exact Nat.le_refl _,by rw[k7,g7];exact hbs,.inl rfl,fun q _ hq=>(k8 q fun z=>hq (by rw[z])).trans (g8 q fun z=>hq (by rw[z])),arr4,et,fr,k1,by rw[k2,g2,m2],fun o ho=>m3 o (by omega),fun j v hj=> ?_⟩;rw[k3,g3];rcases xl h7 hVl hj with⟨q1,q2⟩|⟨q1,q2,q3⟩|⟨q1,q2,q3⟩
      ·rw[if_neg (by omega),if_neg (by omega)];exact hccell j v q2
      ·rw[if_pos ⟨by omega,by omega⟩];exact q3
      ·rw[if_neg (by omega),if_pos ⟨by omega,by omega⟩,show j-(m+1)*7=j-(m*7+7) by omega];exact q3
     exact fin (some b) hb0 b cap _ _ O hroom hcl hwd hR
   ·refine(hGrow b len cap m vb vcap cs vs w hml hlc (by omega) c6 hCl hVl hbcell hvcell hC.one hV.one).mono ?_;rintro e w' ⟨G,row,hG,hrs,rfl,hrt,rfl⟩;have hdl:(cs.drop (m*7)).length=len*7-m*7:=by rw[List.length_drop,hCl]
    have h8:(len+1)*7≤G*7:=cC 7 hG;have hm0:((w.alloc (.cells row tE)).drew).heap[w.heap.size]? =some (.cells row tE (0,0)):=Array.getElem?_push_size;obtain⟨arr3,g1,g2,g3,g4,g5,g6,g7,g8⟩:=lU vs (m*7) row _ hm0 (by rw[hVl,hrs];omega);obtain⟨arr4,k1,k2,k3,k4,k5,k6,k7,k8⟩:=lU (cs.drop (m*7)) ((m+1)*7) arr3 (((w.alloc (.cells row tE)).drew.setCells w.heap.size (m*7) vs).drew) g1 (by rw[hdl,g2,hrs];omega);have hsz2:((w.alloc (.cells row tE)).drew).heap.size=w.heap.size+1:=Array.size_push ..;have O:tQ w ((((w.alloc (.cells row tE)).drew.setCells w.heap.size (m*7) vs).drew).setCells w.heap.size ((m+1)*7) (cs.drop (m*7))) none w.heap.size G (cs.take (m*7)++vs++cs.drop (m*7)):=by
     refine⟨k4.trans g4,k5.trans g5,k6.trans g6, ?_, ?_,.inr (Nat.le_refl _),fun q hq _=> ?_,arr4,tE,(0,0),k1,by rw[k2,g2,hrs],by simp,fun j v hj=> ?_⟩
     ·rw[k7];show w.heap.size≤(((w.alloc (.cells row tE)).drew.setCells w.heap.size (m*7) vs)).heap.size;rw[g7,hsz2];omega
     ·rw[k7];show w.heap.size<(((w.alloc (.cells row tE)).drew.setCells w.heap.size (m*7) vs)).heap.size;rw[g7,hsz2];omega
     ·refine(k8 q (by omega)).trans ((g8 q (by omega)).trans ?_);show (w.heap.push _)[q]? =_;rw[Array.getElem?_push,if_neg (by omega)]
     ·rw[k3,g3];rcases xl h7 hVl hj with⟨q1,q2⟩|⟨q1,q2,q3⟩|⟨q1,q2,q3⟩
      ·rw[if_neg (by omega),if_neg (by omega),hrt j q1];exact q2
      ·rw[if_neg (by omega),if_pos ⟨by omega,by omega⟩];exact q3
      ·rw[if_pos ⟨by omega,by omega⟩,show j-(m+1)*7=j-(m*7+7) by omega];exact q3
    exact fin none (fun b h=>by cases h) w.heap.size G _ _ O hG hcl hwd hR
end
end Mx
namespace Mx
open Go
def eW.l0:C:= .seq (.ak [Q 10 (.bin .lss (.t 9) (.t 8))] [3,7,8,9,10] [6,17])
 (.seq (.cond (.t 10) (.skip) (.exit 0))
 (.seq (.block 1 (.seq (.ak [Qa 11 7 7 9,QL 12 7 11,Q 5 (.alloc [.int .i64 0,.str ⟨#[]⟩,.int .i64 0,.int .i64 0,.int .i64 0,.aK 4,.aK 1]),Qs 7 5 12] [3,5,7,8,9] [5,6,17])
 (.ak [Qm 13 3,QL 14 7 5,Q 15 (.call 155 [.t 14] [] []),Q 16 (.bM 7 1 [.int .i64 0,.str ⟨#[]⟩,.int .i64 0,.int .i64 0,.int .i64 0,.aK 4,.aK 1] [(0,.t 15)]),
   Q 17 (.app 7 96 (.t 13) (.t 16)),Qm 3 17] [3,7,8,9] [6,17])))
 (.ak [Q 18 (.bin .add (.t 9) (kI 1)),Qm 9 18] [3,7,8,9] [6,17])))
def eW.b:C:= .seq (.ak [Q 2 (.nil 7)] [0] [])
 (.seq (.ak [Q 6 (.bM 7 0 [.int .i64 0,.str ⟨#[]⟩,.int .i64 0,.int .i64 0,.int .i64 0,.aK 4,.aK 1] []),Qm 3 6] [0,3] [6,17])
 (.seq (.seq (.ak [Qm 7 0,Q 8 (.len (.t 7)),Qi 9 0] [3,7,8,9] [6,17])
 (.block 0 (.loop eW.l0)))
 (.seq (.ak [Qm 19 3,Qm 2 19] [2] [2,6,17])
 (.ret))))
def eW.m:Fn:={np:=1,body:=eW.b,res:=[.tmp 2]}
def eW.k(M:Nat→Option Body):Prop:=M 270=some (.code eW.m)∧cB.k M
def b6.b:C:= .seq (.ak [Qv 1 0,Q 2 (.alloc [.int .i64 0,.int .i64 0,.aK 7,.aK 1])] [1,2] [1,2,10900,11200])
 (.seq (.gw [Qf 3 0 1,Ql 4 3,Qf 5 1 1,Ql 6 5,Qf 7 2 1,Ql 8 7,Q 9 (.call 270 [.t 8] [] [(0,10900)]),Qf 10 3 1,Ql 11 10,Q 12 (.call 134 [.t 11] [] [(0,11200)]),
   Q 13 (.build [.int .i64 0,.int .i64 0,.aK 7,.aK 1] [(0,1,.t 4),(1,1,.t 6),(2,1,.t 9),(3,1,.t 12)]),Qs 4 2 13] [[],[0],[],[2],[],[4],[4,5],[],[7],[4,5,6,7,8],lr 10,lr 11] [2] [2,10900,11200])
 (.ret))
def b6.m:Fn:={np:=1,body:=b6.b,res:=[.cell 2 true 4]}
def b6.k(M:Nat→Option Body):Prop:=M 220=some (.code b6.m)∧fc.k M∧eW.k M
def fQ.l0:C:= .seq (.ak [Q 11 (.bin .lss (.t 10) (.t 9))] [1,2,8,9,10,11] [2])
 (.seq (.cond (.t 11) (.skip) (.exit 0))
 (.seq (.block 1 (.seq (.ak [Qa 12 7 8 10,QL 13 7 12,Q 6 (.alloc [.int .i64 0,.str ⟨#[]⟩,.int .i64 0,.int .i64 0,.int .i64 0,.aK 4,.aK 1]),Qs 7 6 13] [1,2,6,8,9,10] [2,6])
 (.seq (.ak [Qf 14 0 6,Ql 15 14,Qm 16 1,Q 17 (.bin .eql (.t 15) (.t 16)),Qm 18 17,Qg 19 (.load true 7 (.t 6)) 18 false,Qg 20 (.mv (.t 1)) 18 false,
   Qg 21 (.call 72 [.t 19,.t 20] [] []) 18 false,Qg 22 (.bin .geq (.t 21) (kI 0)) 18 false,Q 23 (.pick (.t 18) (kB true) (.t 22)),Qm 24 23,Qg 25 (.bC 6 (.t 6)) 24 false,
   Qg 26 (.load false 1 (.t 25)) 24 false,Qg 27 (.mv (.t 1)) 24 false,Qg 28 (.call 156 [.t 26,.t 27] [] []) 24 false,Q 29 (.pick (.t 24) (kB true) (.t 28))] [1,2,8,9,10,29] [2])
 (.cond (.t 29) (.seq (.ak [Qb 4 true] [4] [])
 (.ret)) (.skip)))))
 (.ak [Q 30 (.bin .add (.t 10) (kI 1)),Qm 10 30] [1,2,8,9,10] [2])))
def fQ.b:C:= .seq (.ak [Qv 2 0,Qb 4 false] [1,2] [2])
 (.seq (.seq (.ak [Qf 7 2 2,Ql 8 7,Q 9 (.len (.t 8)),Qi 10 0] [1,2,8,9,10] [2])
 (.block 0 (.loop fQ.l0)))
 (.seq (.ak [Qf 31 3 2,Ql 32 31,Qm 33 1,Q 34 (.call 156 [.t 32,.t 33] [] []),Qm 4 34] [4] [])
 (.ret)))
def fQ.m:Fn:={np:=2,body:=fQ.b,res:=[.tmp 4]}
def fQ.k(M:Nat→Option Body):Prop:=M 413=some (.code fQ.m)∧cK.k M∧aI.k M
def ep.b:C:= .seq (.ak [Qv 1 0,Q 2 (.alloc [.int .i64 0,.int .i64 0])] [1,2] [1,2])
 (.seq (.ak [Qf 3 1 1,Ql 4 3,Q 5 (.bin .add (.t 4) (kI 1)),Qf 6 0 1,Ql 7 6,Q 8 (.build [.int .i64 0,.int .i64 0] [(0,1,.t 5),(1,1,.t 7)]),Qs 2 2 8] [2] [2])
 (.ret))
def ep.m:Fn:={np:=1,body:=ep.b,res:=[.cell 2 true 2]}
def ep.k(M:Nat→Option Body):Prop:=M 431=some (.code ep.m)
def gr.b:C:= .seq (.ak [Qv 2 0,Qv 3 1,Q 4 (.alloc [.int .i64 0,.int .i64 0,.aK 7,.aK 1]),Qb 5 false] [2,3,4] [2,3,4])
 (.seq (.seq (.ak [QL 6 4 2,Q 7 (.call 150 [.t 6] [] []),Q 8 (.not (.t 7))] [2,3,4,8] [2,3,4])
 (.cond (.t 8) (.seq (.ak [QL 9 4 3,Q 10 (.call 220 [.t 9] [] []),Qs 4 4 10,Qb 5 false] [4,5] [4])
 (.ret)) (.skip)))
 (.seq (.ak [QL 11 4 2,Qs 4 4 11,Qb 5 true] [4,5] [4])
 (.ret)))
def gr.m:Fn:={np:=2,body:=gr.b,res:=[.cell 4 true 4,.tmp 5]}
def gr.k(M:Nat→Option Body):Prop:=M 441=some (.code gr.m)∧aJ.k M∧b6.k M
def dh.l0:C:= .seq (.seq (.ak [Qm 27 9,Qf 28 2 8,Ql 29 28,Q 30 (.len (.t 29)),Q 31 (.bin .lss (.t 27) (.t 30)),Qm 32 31,Qg 33 (.bC 2 (.t 8)) 32 true,Qg 34 (.load false 1 (.t 33)) 32 true,
    Qg 35 (.mv (.t 9)) 32 true,Qg 36 (.lH 7 (.t 34) (.t 35)) 32 true,Qg 37 (.bC 0 (.t 36)) 32 true,Qg 38 (.load false 1 (.t 37)) 32 true,Qg 39 (.mv (.t 1)) 32 true,
    Qg 40 (.bin .lss (.t 38) (.t 39)) 32 true,Q 41 (.pick (.t 32) (.t 40) (kB false))] [1,2,3,6,8,9,41] [3,6,8,11102,11103,15700,16102,16103])
 (.cond (.t 41) (.skip) (.exit 0)))
 (.block 1 (.ak [Qm 42 9,Q 43 (.bin .add (.t 42) (kI 1)),Qm 9 43] [1,2,3,6,8,9] [3,6,8,11102,11103,15700,16102,16103]))
def dh.b:C:= .seq (.ak [Qv 3 0,Q 6 (.alloc [.int .i64 0,.int .i64 0,.aK 7,.aK 1]),Qb 7 false] [1,2,3,6] [3,6,11102,11103,15700])
 (.seq (.ak [QL 10 4 3,Q 11 (.call 220 [.t 10] [] [(2,11102),(3,11103)]),Q 8 (.alloc [.int .i64 0,.int .i64 0,.aK 7,.aK 1]),Qs 4 8 11] [1,2,3,6,8] [3,6,8,11102,11103,15700])
 (.seq (.seq (.ak [QL 12 4 3,Q 13 (.call 150 [.t 12] [] []),Q 14 (.not (.t 13)),Qm 15 14,Qg 16 (.load true 4 (.t 3)) 15 false,Qg 17 (.mv (.t 1)) 15 false,
   Qg 18 (.call 413 [.t 16,.t 17] [] []) 15 false,Q 19 (.pick (.t 15) (kB true) (.t 18)),Qm 20 19,Qg 21 (.load true 4 (.t 3)) 20 false,Qg 22 (.mv (.t 2)) 20 false,
   Qg 23 (.call 228 [.t 21,.t 22] [] []) 20 false,Qg 24 (.bin .geq (.t 23) (kI 0)) 20 false,Q 25 (.pick (.t 20) (kB true) (.t 24))] [1,2,3,6,8,25] [3,6,8,11102,11103,15700])
 (.cond (.t 25) (.seq (.shut [11102,11103,15700] (.ak [QL 26 4 8,Qs 4 6 26,Qb 7 false] [6,7] [6,11102,11103,15700]))
 (.ret)) (.skip)))
 (.seq (.ak [Qi 9 0] [1,2,3,6,8,9] [3,6,8,11102,11103,15700])
 (.seq (.block 0 (.loop dh.l0))
 (.seq (.ak [Qf 44 1 8,Ql 45 44,Q 46 (.bin .add (.t 45) (kI 1)),Qf 47 1 8,Qs 1 47 46] [1,2,3,6,8,9] [3,6,8,11102,11103,15700])
 (.seq (.gw [Qf 48 2 8,Ql 49 48,Qm 50 9,Qm 51 1,Qm 52 2,QL 53 4 3,Q 54 (.call 431 [.t 53] [] []),
   Q 55 (.build [.int .i64 0,.str ⟨#[]⟩,.int .i64 0,.int .i64 0,.int .i64 0,.aK 4,.aK 1] [(0,1,.t 51),(1,1,.t 52),(2,2,.t 54),(4,1,kI 1)]),
   Q 56 (.bM 7 1 [.int .i64 0,.str ⟨#[]⟩,.int .i64 0,.int .i64 0,.int .i64 0,.aK 4,.aK 1] [(0,.t 55)]),Q 57 (.call 440 [.t 49,.t 50,.t 56] [0,2] [(0,15700)]),
   Qf 58 2 8,Qs 1 58 57] [[],[0],[],[],[],[],[5],[3,4,5,6],[3,4,5,6,7],lr 9,lr 10,lr 11] [3,6,8] [3,6,8,11102,11103,15700])
 (.seq (.shut [11102,11103,15700] (.ak [QL 59 4 8,QL 60 4 3,Q 61 (.call 441 [.t 59,.t 60] [] []),Qx 62 0 61,Qx 63 1 61,Qs 4 6 62,Qm 7 63] [6,7] [6,11102,11103,15700]))
 (.ret))))))))
def dh.m:Fn:={np:=3,body:=dh.b,res:=[.cell 6 true 4,.tmp 7]}
def dh.k(M:Nat→Option Body):Prop:=M 409=some (.code dh.m)∧aJ.k M∧b6.k M∧dW.k M∧fQ.k M∧ep.k M∧M 440=some (.ext CN)∧gr.k M
def fq.b:C:= .seq (.ak [Qv 5 0,Q 10 (.alloc [.int .i64 0,.int .i64 0,.aK 7,.aK 1]),Qb 11 false] [1,2,3,4,5,10] [5,10,11702,11703])
 (.seq (.ak [QL 16 4 5,Q 17 (.call 220 [.t 16] [] [(2,11702),(3,11703)]),Q 12 (.alloc [.int .i64 0,.int .i64 0,.aK 7,.aK 1]),Qs 4 12 17] [1,2,3,4,5,10,12] [5,10,12,11702,11703])
 (.seq (.ak [QL 18 4 5,Qm 19 1,Q 20 (.call 95 [.t 18,.t 19] [] []),Qm 13 20] [2,3,4,5,10,12,13] [5,10,12,11702,11703])
 (.seq (.seq (.ak [QL 21 4 5,Q 22 (.call 150 [.t 21] [] []),Q 23 (.not (.t 22)),Qm 24 23,Qg 25 (.load true 4 (.t 5)) 24 false,Qg 26 (.mv (.t 2)) 24 false,
   Qg 27 (.call 413 [.t 25,.t 26] [] []) 24 false,Q 28 (.pick (.t 24) (kB true) (.t 27)),Qm 29 28,Qg 30 (.mv (.t 13)) 29 false,Qg 31 (.bin .lss (.t 30) (kI 0)) 29 false,
   Q 32 (.pick (.t 29) (kB true) (.t 31))] [2,3,4,5,10,12,13,32] [5,10,12,11702,11703])
 (.cond (.t 32) (.seq (.shut [11702,11703] (.ak [QL 33 4 12,Qs 4 10 33,Qb 11 false] [10,11] [10,11702,11703]))
 (.ret)) (.skip)))
 (.seq (.gw [Qf 35 2 5,Ql 36 35,Qm 37 13,Qa 38 7 36 37,QL 39 7 38,Qm 40 2,Qm 41 3,Qm 42 4,QL 43 4 5,Q 44 (.call 431 [.t 43] [] []),
   Q 45 (.call 70 [.t 39,.t 40,.t 41,.t 42,.t 44] [] []),Qm 34 45,Qx 46 0 34,Qx 47 1 34,
   Q 14 (.alloc [.int .i64 0,.str ⟨#[]⟩,.int .i64 0,.int .i64 0,.int .i64 0,.aK 4,.aK 1]),Qs 7 14 46,Qm 15 47] [[],[0],[],[0,1,2],lr 4,[],[],[],[],[8],lr 10,lr 11,lr 12,lr 12,[],lr 13++[14],lr 16] [5,10,12,13,14,15] [5,10,12,14,11702,11703])
 (.seq (.seq (.ak [Qm 48 15,Q 49 (.not (.t 48))] [5,10,12,13,14,49] [5,10,12,14,11702,11703])
 (.cond (.t 49) (.seq (.shut [11702,11703] (.ak [QL 50 4 12,Qs 4 10 50,Qb 11 false] [10,11] [10,11702,11703]))
 (.ret)) (.skip)))
 (.seq (.ak [Qf 51 1 12,Ql 52 51,Q 53 (.bin .add (.t 52) (kI 1)),Qf 54 1 12,Qs 1 54 53] [5,10,12,13,14] [5,10,12,14,11702,11703])
 (.seq (.ak [Qf 55 2 12,Ql 56 55,Qm 57 13,QL 58 7 14,Qa 59 7 56 57,Qs 7 59 58] [5,10,12] [5,10,12,11702,11703])
 (.seq (.shut [11702,11703] (.ak [QL 60 4 12,QL 61 4 5,Q 62 (.call 441 [.t 60,.t 61] [] []),Qx 63 0 62,Qx 64 1 62,Qs 4 10 63,Qm 11 64] [10,11] [10,11702,11703]))
 (.ret)))))))))
def fq.m:Fn:={np:=5,body:=fq.b,res:=[.cell 10 true 4,.tmp 11]}
def fq.k(M:Nat→Option Body):Prop:=M 410=some (.code fq.m)∧eI.k M∧gV.k M∧aJ.k M∧b6.k M∧fQ.k M∧ep.k M∧gr.k M
def ei.b:C:= .seq (.ak [Qv 3 0,Q 6 (.alloc [.int .i64 0,.int .i64 0,.aK 7,.aK 1]),Qb 7 false] [1,2,3,6] [3,6,11102,11103])
 (.seq (.ak [QL 10 4 3,Q 11 (.call 220 [.t 10] [] [(2,11102),(3,11103)]),Q 8 (.alloc [.int .i64 0,.int .i64 0,.aK 7,.aK 1]),Qs 4 8 11] [1,2,3,6,8] [3,6,8,11102,11103])
 (.seq (.ak [QL 12 4 3,Qm 13 1,Q 14 (.call 95 [.t 12,.t 13] [] []),Qm 9 14] [2,3,6,8,9] [3,6,8,11102,11103])
 (.seq (.seq (.ak [QL 15 4 3,Q 16 (.call 150 [.t 15] [] []),Q 17 (.not (.t 16)),Qm 18 17,Qg 19 (.mv (.t 9)) 18 false,Qg 20 (.bin .lss (.t 19) (kI 0)) 18 false,
   Q 21 (.pick (.t 18) (kB true) (.t 20)),Qm 22 21,Qg 23 (.load true 4 (.t 3)) 22 false,Qg 24 (.mv (.t 2)) 22 false,Qg 25 (.call 228 [.t 23,.t 24] [] []) 22 false,
   Qg 26 (.bin .geq (.t 25) (kI 0)) 22 false,Q 27 (.pick (.t 22) (kB true) (.t 26))] [2,3,6,8,9,27] [3,6,8,11102,11103])
 (.cond (.t 27) (.seq (.shut [11102,11103] (.ak [QL 28 4 8,Qs 4 6 28,Qb 7 false] [6,7] [6,11102,11103]))
 (.ret)) (.skip)))
 (.seq (.ak [Qf 29 1 8,Ql 30 29,Q 31 (.bin .add (.t 30) (kI 1)),Qf 32 1 8,Qs 1 32 31] [2,3,6,8,9] [3,6,8,11102,11103])
 (.seq (.ak [Qf 33 2 8,Ql 34 33,Qm 35 9,Qm 36 2,Qa 37 7 34 35,Qf 38 1 37,Qs 1 38 36] [3,6,8,9] [3,6,8,11102,11103])
 (.seq (.gw [Qf 39 2 8,Ql 40 39,Qm 41 9,QL 42 4 3,Q 43 (.call 431 [.t 42] [] []),Qa 44 7 40 41,Qf 45 2 44,Qs 2 45 43] [[],[0],[],[],[3],lr 5,lr 6,lr 7] [3,6,8] [3,6,8,11102,11103])
 (.seq (.shut [11102,11103] (.ak [QL 46 4 8,QL 47 4 3,Q 48 (.call 441 [.t 46,.t 47] [] []),Qx 49 0 48,Qx 50 1 48,Qs 4 6 49,Qm 7 50] [6,7] [6,11102,11103]))
 (.ret))))))))
def ei.m:Fn:={np:=3,body:=ei.b,res:=[.cell 6 true 4,.tmp 7]}
def ei.k(M:Nat→Option Body):Prop:=M 411=some (.code ei.m)∧gV.k M∧aJ.k M∧b6.k M∧dW.k M∧ep.k M∧gr.k M
def bd.b:C:= .seq (.ak [Q 6 (.nil 7)] [0,1,2] [0,26])
 (.seq (.ak [Qm 8 0,Qm 9 1,Qm 10 2,Qm 11 0,Q 12 (.len (.t 11)),Q 13 (.xh 7 (.t 8) (some (.t 9)) (some (.t 10)) (some (.t 12)))] [0,1,2] [0,26])
 (.seq (.seq (.ak [Qm 14 1,Qm 15 2,Q 16 (.bin .eql (.t 14) (.t 15))] [0,1,2,16] [0,26])
 (.cond (.t 16) (.seq (.ak [Qm 17 0,Qm 6 17] [6] [0,6,26])
 (.ret)) (.skip)))
 (.seq (.ak [Qm 18 0,Q 19 (.len (.t 18)),Qm 7 19] [0,1,2,7] [0,26])
 (.seq (.gw [Qm 20 0,Qm 21 1,Q 22 (.xh 7 (.t 20) none (some (.t 21)) none),Qm 23 0,Qm 24 2,Q 25 (.xh 7 (.t 23) (some (.t 24)) none none),Q 26 (.yU 7 96 (.t 22) (.t 25)),Qm 0 26] [[],[],[0,1],[],[],[3,4],lr 6,lr 7] [0,7] [0,26])
 (.seq (.ak [Qm 27 0,Qm 28 0,Q 29 (.len (.t 28)),Qm 30 7,Q 31 (.yL 7 (.t 27) (some (.t 29)) (some (.t 30))),
   Qn (.FL [.int .i64 0,.str ⟨#[]⟩,.int .i64 0,.int .i64 0,.int .i64 0,.aK 4,.aK 1] (.t 31))] [0] [0,26])
 (.seq (.ak [Qm 32 0,Qm 6 32] [6] [0,6,26])
 (.ret)))))))
def bd.m:Fn:={np:=3,body:=bd.b,res:=[.tmp 6]}
def bd.k(M:Nat→Option Body):Prop:=M 442=some (.code bd.m)
def fZ.b:C:= .seq (.ak [Qv 2 0,Q 4 (.alloc [.int .i64 0,.int .i64 0,.aK 7,.aK 1]),Qb 5 false] [1,2,4] [2,4,10902,10903,13200,13700])
 (.seq (.ak [QL 8 4 2,Q 9 (.call 220 [.t 8] [] [(2,10902),(3,10903)]),Q 6 (.alloc [.int .i64 0,.int .i64 0,.aK 7,.aK 1]),Qs 4 6 9] [1,2,4,6] [2,4,6,10902,10903,13200,13700])
 (.seq (.ak [QL 10 4 2,Qm 11 1,Q 12 (.call 95 [.t 10,.t 11] [] []),Qm 7 12] [1,2,4,6,7] [2,4,6,10902,10903,13200,13700])
 (.seq (.seq (.ak [QL 13 4 2,Q 14 (.call 150 [.t 13] [] []),Q 15 (.not (.t 14)),Qm 16 15,Qg 17 (.mv (.t 7)) 16 false,Qg 18 (.bin .lss (.t 17) (kI 0)) 16 false,
   Q 19 (.pick (.t 16) (kB true) (.t 18)),Qm 20 19,Qg 21 (.bC 3 (.t 2)) 20 false,Qg 22 (.load false 1 (.t 21)) 20 false,Qg 23 (.len (.t 22)) 20 false,
   Qg 24 (.bin .eql (.t 23) (kI 20)) 20 false,Q 25 (.pick (.t 20) (kB true) (.t 24))] [1,2,4,6,7,25] [2,4,6,10902,10903,13200,13700])
 (.cond (.t 25) (.seq (.shut [10902,10903,13200,13700] (.ak [QL 26 4 6,Qs 4 4 26,Qb 5 false] [4,5] [4,10902,10903,13200,13700]))
 (.ret)) (.skip)))
 (.seq (.ak [Qf 27 2 6,Ql 28 27,Qm 29 7,Qm 30 7,Q 31 (.bin .add (.t 30) (kI 1)),Q 32 (.call 442 [.t 28,.t 29,.t 31] [0] [(0,13200)]),Qf 33 2 6,Qs 1 33 32] [1,2,4,6] [2,4,6,10902,10903,13200,13700])
 (.seq (.ak [Qf 34 3 2,Ql 35 34,Qm 36 1,Q 37 (.call 163 [.t 35,.t 36] [] [(0,13700)]),Qf 38 3 6,Qs 1 38 37] [4,6] [4,6,10902,10903,13200,13700])
 (.seq (.shut [10902,10903,13200,13700] (.ak [QL 39 4 6,Qs 4 4 39,Qb 5 true] [4,5] [4,10902,10903,13200,13700]))
 (.ret)))))))
def fZ.m:Fn:={np:=2,body:=fZ.b,res:=[.cell 4 true 4,.tmp 5]}
def fZ.k(M:Nat→Option Body):Prop:=M 412=some (.code fZ.m)∧gV.k M∧aJ.k M∧jG.k M∧b6.k M∧bd.k M
def fg.b:C:= .seq (.ak [Qv 4 0,Q 8 (.alloc [.int .i64 0,.int .i64 0,.aK 7,.aK 1]),Qb 9 false] [1,2,3,4,8] [4,8,11502,11503])
 (.seq (.ak [QL 14 4 4,Q 15 (.call 220 [.t 14] [] [(2,11502),(3,11503)]),Q 10 (.alloc [.int .i64 0,.int .i64 0,.aK 7,.aK 1]),Qs 4 10 15] [1,2,3,4,8,10] [4,8,10,11502,11503])
 (.seq (.ak [QL 16 4 4,Qm 17 1,Q 18 (.call 95 [.t 16,.t 17] [] []),Qm 11 18] [2,3,4,8,10,11] [4,8,10,11502,11503])
 (.seq (.seq (.ak [QL 19 4 4,Q 20 (.call 150 [.t 19] [] []),Q 21 (.not (.t 20)),Qm 22 21,Qg 23 (.mv (.t 11)) 22 false,Qg 24 (.bin .lss (.t 23) (kI 0)) 22 false,
   Q 25 (.pick (.t 22) (kB true) (.t 24))] [2,3,4,8,10,11,25] [4,8,10,11502,11503])
 (.cond (.t 25) (.seq (.shut [11502,11503] (.ak [QL 26 4 10,Qs 4 8 26,Qb 9 false] [8,9] [8,11502,11503]))
 (.ret)) (.skip)))
 (.seq (.gw [Qf 28 2 4,Ql 29 28,Qm 30 11,Qa 31 7 29 30,QL 32 7 31,Qm 33 2,Qm 34 3,QL 35 4 4,Q 36 (.call 431 [.t 35] [] []),Q 37 (.call 83 [.t 32,.t 33,.t 34,.t 36] [] []),Qm 27 37,
   Qx 38 0 27,Qx 39 1 27,Q 12 (.alloc [.int .i64 0,.str ⟨#[]⟩,.int .i64 0,.int .i64 0,.int .i64 0,.aK 4,.aK 1]),Qs 7 12 38,Qm 13 39] [[],[0],[],[0,1,2],lr 4,[],[],[],[7],lr 9,lr 10,lr 11,lr 11,[],lr 12++[13],lr 15] [4,8,10,11,12,13] [4,8,10,12,11502,11503])
 (.seq (.seq (.ak [Qm 40 13,Q 41 (.not (.t 40))] [4,8,10,11,12,41] [4,8,10,12,11502,11503])
 (.cond (.t 41) (.seq (.shut [11502,11503] (.ak [QL 42 4 10,Qs 4 8 42,Qb 9 false] [8,9] [8,11502,11503]))
 (.ret)) (.skip)))
 (.seq (.ak [Qf 43 1 10,Ql 44 43,Q 45 (.bin .add (.t 44) (kI 1)),Qf 46 1 10,Qs 1 46 45] [4,8,10,11,12] [4,8,10,12,11502,11503])
 (.seq (.ak [Qf 47 2 10,Ql 48 47,Qm 49 11,QL 50 7 12,Qa 51 7 48 49,Qs 7 51 50] [4,8,10] [4,8,10,11502,11503])
 (.seq (.shut [11502,11503] (.ak [QL 52 4 10,QL 53 4 4,Q 54 (.call 441 [.t 52,.t 53] [] []),Qx 55 0 54,Qx 56 1 54,Qs 4 8 55,Qm 9 56] [8,9] [8,11502,11503]))
 (.ret)))))))))
def fg.m:Fn:={np:=4,body:=fg.b,res:=[.cell 8 true 4,.tmp 9]}
def fg.k(M:Nat→Option Body):Prop:=M 428=some (.code fg.m)∧dV.k M∧gV.k M∧aJ.k M∧b6.k M∧ep.k M∧gr.k M
def fh.b:C:= .seq (.ak [Qv 3 0,Q 6 (.alloc [.int .i64 0,.int .i64 0,.aK 7,.aK 1]),Qb 7 false] [1,2,3,6] [3,6,11302,11303])
 (.seq (.ak [QL 12 4 3,Q 13 (.call 220 [.t 12] [] [(2,11302),(3,11303)]),Q 8 (.alloc [.int .i64 0,.int .i64 0,.aK 7,.aK 1]),Qs 4 8 13] [1,2,3,6,8] [3,6,8,11302,11303])
 (.seq (.ak [QL 14 4 3,Qm 15 1,Q 16 (.call 95 [.t 14,.t 15] [] []),Qm 9 16] [2,3,6,8,9] [3,6,8,11302,11303])
 (.seq (.seq (.ak [QL 17 4 3,Q 18 (.call 150 [.t 17] [] []),Q 19 (.not (.t 18)),Qm 20 19,Qg 21 (.mv (.t 9)) 20 false,Qg 22 (.bin .lss (.t 21) (kI 0)) 20 false,
   Q 23 (.pick (.t 20) (kB true) (.t 22))] [2,3,6,8,9,23] [3,6,8,11302,11303])
 (.cond (.t 23) (.seq (.shut [11302,11303] (.ak [QL 24 4 8,Qs 4 6 24,Qb 7 false] [6,7] [6,11302,11303]))
 (.ret)) (.skip)))
 (.seq (.ak [Qf 26 2 3,Ql 27 26,Qm 28 9,Qa 29 7 27 28,QL 30 7 29,Qm 31 2,Q 32 (.call 73 [.t 30,.t 31] [] []),Qm 25 32,Qx 33 0 25,Qx 34 1 25,
   Q 10 (.alloc [.int .i64 0,.str ⟨#[]⟩,.int .i64 0,.int .i64 0,.int .i64 0,.aK 4,.aK 1]),Qs 7 10 33,Qm 11 34] [6,8,9,10,11] [6,8,10,11302,11303])
 (.seq (.seq (.ak [Qm 35 11,Q 36 (.not (.t 35))] [6,8,9,10,36] [6,8,10,11302,11303])
 (.cond (.t 36) (.seq (.shut [11302,11303] (.ak [QL 37 4 8,Qs 4 6 37,Qb 7 false] [6,7] [6,11302,11303]))
 (.ret)) (.skip)))
 (.seq (.ak [Qf 38 2 8,Ql 39 38,Qm 40 9,QL 41 7 10,Qa 42 7 39 40,Qs 7 42 41] [6,8] [6,8,11302,11303])
 (.seq (.shut [11302,11303] (.ak [QL 43 4 8,Qs 4 6 43,Qb 7 true] [6,7] [6,11302,11303]))
 (.ret))))))))
def fh.m:Fn:={np:=3,body:=fh.b,res:=[.cell 6 true 4,.tmp 7]}
def fh.k(M:Nat→Option Body):Prop:=M 429=some (.code fh.m)∧fY.k M∧gV.k M∧aJ.k M∧b6.k M
def fV.b:C:= .seq (.ak [Qv 2 0,Qv 3 1,Qb 4 false] [2,3] [2,3])
 (.seq (.ak [Qf 5 0 2,Ql 6 5,Qf 7 0 3,Ql 8 7,Q 9 (.bin .eql (.t 6) (.t 8)),Qm 10 9,Qg 11 (.bC 1 (.t 2)) 10 true,Qg 12 (.load false 1 (.t 11)) 10 true,Qg 13 (.bC 1 (.t 3)) 10 true,
   Qg 14 (.load false 1 (.t 13)) 10 true,Qg 15 (.bin .eql (.t 12) (.t 14)) 10 true,Q 16 (.pick (.t 10) (.t 15) (kB false)),Qm 17 16,Qg 18 (.load true 4 (.t 2)) 17 true,
   Qg 19 (.load true 4 (.t 3)) 17 true,Qg 20 (.call 31 [.t 18,.t 19] [] []) 17 true,Q 21 (.pick (.t 17) (.t 20) (kB false)),Qm 4 21] [4] [])
 (.ret))
def fV.m:Fn:={np:=2,body:=fV.b,res:=[.tmp 4]}
def fV.k(M:Nat→Option Body):Prop:=M 421=some (.code fV.m)∧dg.k M
def iu.b:C:= .seq (.ak [Q 2 (.mv (.k (.str ⟨#[]⟩)))] [0] [])
 (.seq (.ak [Qm 3 0,Q 4 (.bin .shr (.t 3) (.k (.int .u64 24))),Q 5 (.qY .u8 (.t 4)),Qm 6 0,Q 7 (.bin .shr (.t 6) (.k (.int .u64 16))),Q 8 (.qY .u8 (.t 7)),Qm 9 0,
   Q 10 (.bin .shr (.t 9) (.k (.int .u64 8))),Q 11 (.qY .u8 (.t 10)),Qm 12 0,Q 13 (.qY .u8 (.t 12)),
   Q 14 (.bM 1 4 [.int .u8 0] [(0,.t 5),(1,.t 8),(2,.t 11),(3,.t 13)]),Q 15 (.Fm (.t 14)),Qm 2 15] [2] [])
 (.ret))
def iu.m:Fn:={np:=1,body:=iu.b,res:=[.tmp 2]}
def iu.k(M:Nat→Option Body):Prop:=M 202=some (.code iu.m)
def kO.b:C:= .seq (.ak [Q 2 (.mv (.k (.str ⟨#[]⟩)))] [0] [])
 (.seq (.ak [Qm 3 0,Q 4 (.bin .shr (.t 3) (.k (.int .u64 24))),Q 5 (.qY .u8 (.t 4)),Qm 6 0,Q 7 (.bin .shr (.t 6) (.k (.int .u64 16))),Q 8 (.qY .u8 (.t 7)),Qm 9 0,
   Q 10 (.bin .shr (.t 9) (.k (.int .u64 8))),Q 11 (.qY .u8 (.t 10)),Qm 12 0,Q 13 (.qY .u8 (.t 12)),
   Q 14 (.bM 1 4 [.int .u8 0] [(0,.t 5),(1,.t 8),(2,.t 11),(3,.t 13)]),Q 15 (.Fm (.t 14)),Qm 2 15] [2] [])
 (.ret))
def kO.m:Fn:={np:=1,body:=kO.b,res:=[.tmp 2]}
def kO.k(M:Nat→Option Body):Prop:=M 204=some (.code kO.m)
def cN.l1:C:= .seq (.seq (.ak [Qm 20 6,Q 21 (.bin .lss (.t 20) (kI 8))] [0,1,5,6,21] [])
 (.cond (.t 21) (.skip) (.exit 2)))
 (.seq (.block 3 (.seq (.ak [Qm 24 0,Q 25 (.bin .rem (.t 24) (.k (.int .u32 2))),Q 26 (.bin .eql (.t 25) (.k (.int .u32 1))),Qm 7 26] [0,1,5,6,7] [])
 (.seq (.ak [Qm 27 0,Q 28 (.bin .quo (.t 27) (.k (.int .u32 2))),Qm 0 28] [0,1,5,6,7] [])
 (.seq (.ak [Qm 29 7] [0,1,5,6,29] [])
 (.cond (.t 29) (.ak [Qm 30 0,Q 31 (.bin .xor (.t 30) (.k (.int .u32 3558460437))),Qm 0 31] [0,1,5,6] []) (.skip))))))
 (.ak [Qm 22 6,Q 23 (.bin .add (.t 22) (kI 1)),Qm 6 23] [0,1,5,6] []))
def cN.l0:C:= .seq (.seq (.ak [Qm 8 5,Qm 9 1,Q 10 (.j0 (.t 9)),Q 11 (.bin .lss (.t 8) (.t 10))] [0,1,5,11] [])
 (.cond (.t 11) (.skip) (.exit 0)))
 (.seq (.block 1 (.seq (.ak [Qm 14 0,Qm 15 1,Qm 16 5,Q 17 (.idx (.t 15) (.t 16)),Q 18 (.qY .u32 (.t 17)),Q 19 (.bin .xor (.t 14) (.t 18)),Qm 0 19] [0,1,5] [])
 (.seq (.ak [Qi 6 0] [0,1,5,6] [])
 (.block 2 (.loop cN.l1)))))
 (.ak [Qm 12 5,Q 13 (.bin .add (.t 12) (kI 1)),Qm 5 13] [0,1,5] []))
def cN.b:C:= .seq (.ak [Q 4 (.mv (.k (.int .u32 0)))] [0,1] [])
 (.seq (.seq (.ak [Qi 5 0] [0,1,5] [])
 (.block 0 (.loop cN.l0)))
 (.seq (.ak [Qm 32 0,Qm 4 32] [4] [])
 (.ret)))
def cN.m:Fn:={np:=2,body:=cN.b,res:=[.tmp 4]}
def cN.k(M:Nat→Option Body):Prop:=M 248=some (.code cN.m)
def jE.b:C:= .seq (.ak [Q 2 (.mv (.k (.int .u32 0)))] [0] [])
 (.seq (.ak [Qm 3 0,Q 4 (.call 248 [.k (.int .u32 4294967295),.t 3] [] []),Qm 2 4] [2] [])
 (.ret))
def jE.m:Fn:={np:=1,body:=jE.b,res:=[.tmp 2]}
def jE.k(M:Nat→Option Body):Prop:=M 201=some (.code jE.m)∧cN.k M
def cO.l1:C:= .seq (.ak [Q 20 (.bin .lss (.t 19) (kI 8))] [0,1,5,19,20] [])
 (.seq (.cond (.t 20) (.skip) (.exit 2))
 (.seq (.block 3 (.seq (.ak [Qm 21 0,Q 22 (.bin .and (.t 21) (.k (.int .u32 1))),Qm 6 22] [0,1,5,6,19] [])
 (.seq (.ak [Qm 23 0,Q 24 (.bin .shr (.t 23) (.k (.int .u64 1))),Qm 0 24] [0,1,5,6,19] [])
 (.seq (.ak [Qm 25 6,Q 26 (.bin .eql (.t 25) (.k (.int .u32 1)))] [0,1,5,19,26] [])
 (.cond (.t 26) (.ak [Qm 27 0,Q 28 (.bin .xor (.t 27) (.k (.int .u32 3558460437))),Qm 0 28] [0,1,5,19] []) (.skip))))))
 (.ak [Q 29 (.bin .add (.t 19) (kI 1)),Qm 19 29] [0,1,5,19] [])))
def cO.l0:C:= .seq (.seq (.ak [Qm 7 5,Qm 8 1,Q 9 (.j0 (.t 8)),Q 10 (.bin .lss (.t 7) (.t 9))] [0,1,5,10] [])
 (.cond (.t 10) (.skip) (.exit 0)))
 (.seq (.block 1 (.seq (.ak [Qm 13 0,Qm 14 1,Qm 15 5,Q 16 (.idx (.t 14) (.t 15)),Q 17 (.qY .u32 (.t 16)),Q 18 (.bin .xor (.t 13) (.t 17)),Qm 0 18] [0,1,5] [])
 (.seq (.ak [Qi 19 0] [0,1,5,19] [])
 (.block 2 (.loop cO.l1)))))
 (.ak [Qm 11 5,Q 12 (.bin .add (.t 11) (kI 1)),Qm 5 12] [0,1,5] []))
def cO.b:C:= .seq (.ak [Q 4 (.mv (.k (.int .u32 0)))] [0,1] [])
 (.seq (.seq (.ak [Qi 5 0] [0,1,5] [])
 (.block 0 (.loop cO.l0)))
 (.seq (.ak [Qm 30 0,Qm 4 30] [4] [])
 (.ret)))
def cO.m:Fn:={np:=2,body:=cO.b,res:=[.tmp 4]}
def cO.k(M:Nat→Option Body):Prop:=M 249=some (.code cO.m)
def jH.b:C:= .seq (.ak [Q 2 (.mv (.k (.int .u32 0)))] [0] [])
 (.seq (.ak [Qm 3 0,Q 4 (.call 249 [.k (.int .u32 4294967295),.t 3] [] []),Qm 2 4] [2] [])
 (.ret))
def jH.m:Fn:={np:=1,body:=jH.b,res:=[.tmp 2]}
def jH.k(M:Nat→Option Body):Prop:=M 203=some (.code jH.m)∧cO.k M
def ig.b:C:= .seq (.ak [Q 2 (.mv (.k (.str ⟨#[]⟩))),Qb 3 false] [0] [])
 (.seq (.seq (.ak [Qm 4 0,Q 5 (.j0 (.t 4)),Q 6 (.bin .gtr (.t 5) (kI 20000))] [0,6] [])
 (.cond (.t 6) (.seq (.ak [Q 2 (.mv (.k (.str ⟨#[]⟩))),Qb 3 false] [2,3] [])
 (.ret)) (.skip)))
 (.seq (.ak [Qm 7 0,Qm 8 0,Q 9 (.call 201 [.t 8] [] []),Q 10 (.call 202 [.t 9] [] []),Q 11 (.bin .add (.t 7) (.t 10)),Qm 2 11,Qb 3 true] [2,3] [])
 (.ret)))
def ig.m:Fn:={np:=1,body:=ig.b,res:=[.tmp 2,.tmp 3]}
def ig.k(M:Nat→Option Body):Prop:=M 100=some (.code ig.m)∧jE.k M∧iu.k M
def iY.b:C:= .seq (.ak [Q 2 (.mv (.k (.str ⟨#[]⟩))),Qb 3 false] [0] [])
 (.seq (.seq (.ak [Qm 4 0,Q 5 (.j0 (.t 4)),Q 6 (.bin .gtr (.t 5) (kI 20000))] [0,6] [])
 (.cond (.t 6) (.seq (.ak [Q 2 (.mv (.k (.str ⟨#[]⟩))),Qb 3 false] [2,3] [])
 (.ret)) (.skip)))
 (.seq (.ak [Qm 7 0,Qm 8 0,Q 9 (.call 203 [.t 8] [] []),Q 10 (.qY .i64 (.t 9)),Q 11 (.call 204 [.t 10] [] []),Q 12 (.bin .add (.t 7) (.t 11)),Qm 2 12,Qb 3 true] [2,3] [])
 (.ret)))
def iY.m:Fn:={np:=1,body:=iY.b,res:=[.tmp 2,.tmp 3]}
def iY.k(M:Nat→Option Body):Prop:=M 103=some (.code iY.m)∧jH.k M∧kO.k M
def fb.b:C:= .seq (.ak [Q 2 (.mv (.k (.str ⟨#[]⟩))),Qb 3 false] [0] [])
 (.seq (.ak [Qm 5 0,Q 6 (.j0 (.t 5)),Q 7 (.bin .sub (.t 6) (kI 4)),Qm 4 7] [0,4] [])
 (.seq (.seq (.gw [Qm 8 4,Q 9 (.bin .lss (.t 8) (kI 0)),Qm 10 9,Qg 11 (.mv (.t 4)) 10 false,Qg 12 (.bin .gtr (.t 11) (kI 20000)) 10 false,Q 13 (.pick (.t 10) (kB true) (.t 12)),Qm 14 13,
   Qg 15 (.mv (.t 0)) 14 false,Qg 16 (.mv (.t 4)) 14 false,Qg 17 (.oj (.t 15) (some (.t 16)) none) 14 false,Qg 18 (.mv (.t 0)) 14 false,Qg 19 (.mv (.t 4)) 14 false,
   Qg 20 (.oj (.t 18) none (some (.t 19))) 14 false,Qg 21 (.call 201 [.t 20] [] []) 14 false,Qg 22 (.call 202 [.t 21] [] []) 14 false,Qg 23 (.bin .neq (.t 17) (.t 22)) 14 false,
   Q 24 (.pick (.t 14) (kB true) (.t 23))] [[],[0],[0,1],[0,1,2],[0,1,2,3],[0,1,2,3,4],[0,1,2,3,4,5],[0,1,2,3,4,5,6],[0,1,2,3,4,5,6],[0,1,2,3,4,5,6,7,8],[0,1,2,3,4,5,6],[0,1,2,3,4,5,6],[0,1,2,3,4,5,6,10,11],[0,1,2,3,4,5,6,10,11,12],[0,1,2,3,4,5,6,10,11,12,13],[0,1,2,3,4,5,6,7,8,9,10,11,12,13,14],[0,1,2,3,4,5,6,7,8,9,10,11,12,13,14,15]] [0,4,24] [])
 (.cond (.t 24) (.seq (.ak [Q 2 (.mv (.k (.str ⟨#[]⟩))),Qb 3 false] [2,3] [])
 (.ret)) (.skip)))
 (.seq (.ak [Qm 25 0,Qm 26 4,Q 27 (.oj (.t 25) none (some (.t 26))),Qm 2 27,Qb 3 true] [2,3] [])
 (.ret))))
def fb.m:Fn:={np:=1,body:=fb.b,res:=[.tmp 2,.tmp 3]}
def fb.k(M:Nat→Option Body):Prop:=M 167=some (.code fb.m)∧jE.k M∧iu.k M
def ij.b:C:= .seq (.ak [Qi 4 0] [0,1] [])
 (.seq (.gw [Qm 5 0,Qm 6 1,Q 7 (.idx (.t 5) (.t 6)),Q 8 (.qY .i64 (.t 7)),Q 9 (.bin .shl (.t 8) (.k (.int .u64 24))),Qm 10 0,Qm 11 1,Q 12 (.bin .add (.t 11) (kI 1)),
   Q 13 (.idx (.t 10) (.t 12)),Q 14 (.qY .i64 (.t 13)),Q 15 (.bin .shl (.t 14) (.k (.int .u64 16))),Q 16 (.bin .or (.t 9) (.t 15)),Qm 17 0,Qm 18 1,
   Q 19 (.bin .add (.t 18) (kI 2)),Q 20 (.idx (.t 17) (.t 19)),Q 21 (.qY .i64 (.t 20)),Q 22 (.bin .shl (.t 21) (.k (.int .u64 8))),Q 23 (.bin .or (.t 16) (.t 22)),Qm 24 0,
   Qm 25 1,Q 26 (.bin .add (.t 25) (kI 3)),Q 27 (.idx (.t 24) (.t 26)),Q 28 (.qY .i64 (.t 27)),Q 29 (.bin .or (.t 23) (.t 28)),Qm 4 29] [[],[],[0,1],[0,1,2],[0,1,2,3],[],[],[6],[5,6,7],[5,6,7,8],[5,6,7,8,9],[0,1,2,3,4,5,6,7,8,9,10],[],[],[13],[12,13,14],[12,13,14,15],[12,13,14,15,16],[0,1,2,3,4,5,6,7,8,9,10,11,12,13,14,15,16,17],[],[],[20],[19,20,21],[19,20,21,22],[0,1,2,3,4,5,6,7,8,9,10,11,12,13,14,15,16,17,18,19,20,21,22,23],[0,1,2,3,4,5,6,7,8,9,10,11,12,13,14,15,16,17,18,19,20,21,22,23,24]] [4] [])
 (.ret))
def ij.m:Fn:={np:=2,body:=ij.b,res:=[.tmp 4]}
def ij.k(M:Nat→Option Body):Prop:=M 236=some (.code ij.m)
def fe.b:C:= .seq (.ak [Q 2 (.mv (.k (.str ⟨#[]⟩))),Qb 3 false] [0] [])
 (.seq (.ak [Qm 5 0,Q 6 (.j0 (.t 5)),Q 7 (.bin .sub (.t 6) (kI 4)),Qm 4 7] [0,4] [])
 (.seq (.seq (.ak [Qm 8 4,Q 9 (.call 101 [.t 8,kI 0,kI 20000] [] []),Q 10 (.not (.t 9)),Qm 11 10,Qg 12 (.mv (.t 0)) 11 false,Qg 13 (.mv (.t 4)) 11 false,
   Qg 14 (.oj (.t 12) none (some (.t 13))) 11 false,Qg 15 (.call 203 [.t 14] [] []) 11 false,Qg 16 (.qY .i64 (.t 15)) 11 false,Qg 17 (.mv (.t 0)) 11 false,
   Qg 18 (.mv (.t 4)) 11 false,Qg 19 (.call 236 [.t 17,.t 18] [] []) 11 false,Qg 20 (.bin .neq (.t 16) (.t 19)) 11 false,Q 21 (.pick (.t 11) (kB true) (.t 20))] [0,4,21] [])
 (.cond (.t 21) (.seq (.ak [Q 2 (.mv (.k (.str ⟨#[]⟩))),Qb 3 false] [2,3] [])
 (.ret)) (.skip)))
 (.seq (.ak [Qm 22 0,Qm 23 4,Q 24 (.oj (.t 22) none (some (.t 23))),Qm 2 24,Qb 3 true] [2,3] [])
 (.ret))))
def fe.m:Fn:={np:=1,body:=fe.b,res:=[.tmp 2,.tmp 3]}
def fe.k(M:Nat→Option Body):Prop:=M 168=some (.code fe.m)∧bV.k M∧jH.k M∧ij.k M
def fF.b:C:= .seq (.ak [Q 2 (.mv (.k (.str ⟨#[]⟩))),Qb 3 false] [0] [])
 (.seq (.seq (.ak [Qm 4 0,Q 5 (.j0 (.t 4)),Q 6 (.call 98 [.t 5,kI 1,kI 6000] [] []),Q 7 (.not (.t 6))] [0,7] [])
 (.cond (.t 7) (.seq (.ak [Q 2 (.mv (.k (.str ⟨#[]⟩))),Qb 3 false] [2,3] [])
 (.ret)) (.skip)))
 (.seq (.ak [Qm 8 0,Q 9 (.j0 (.t 8)),Q 10 (.call 99 [.t 9] [] []),Qm 11 0,Q 12 (.bin .add (.t 10) (.t 11)),Q 13 (.call 100 [.t 12] [] []),Qx 14 0 13,Qx 15 1 13,Qm 2 14,Qm 3 15] [2,3] [])
 (.ret)))
def fF.m:Fn:={np:=1,body:=fF.b,res:=[.tmp 2,.tmp 3]}
def fF.k(M:Nat→Option Body):Prop:=M 10=some (.code fF.m)∧bR.k M∧bH.k M∧ig.k M
def dG.b:C:= .seq (.ak [Q 4 (.mv (.k (.str ⟨#[]⟩))),Qi 5 0,Qb 6 false] [0,1] [])
 (.seq (.ak [Qm 13 0,Qm 14 1,Q 15 (.call 207 [.t 13,.t 14] [] []),Qm 12 15,Qx 16 0 12,Qx 17 1 12,Qx 18 2 12,Qm 7 16,Qm 8 17,Qm 9 18] [0,1,7,8,9] [])
 (.seq (.seq (.ak [Qm 19 9,Q 20 (.not (.t 19)),Qm 21 20,Qg 22 (.mv (.t 7)) 21 false,Qg 23 (.j0 (.t 22)) 21 false,Qg 24 (.call 101 [.t 23,kI 1,kI 6000] [] []) 21 false,
   Qg 25 (.not (.t 24)) 21 false,Q 26 (.pick (.t 21) (kB true) (.t 25)),Qm 27 26,Qg 28 (.mv (.t 0)) 27 false,Qg 29 (.j0 (.t 28)) 27 false,Qg 30 (.mv (.t 8)) 27 false,
   Qg 31 (.bin .sub (.t 29) (.t 30)) 27 false,Qg 32 (.bin .lss (.t 31) (kI 4)) 27 false,Q 33 (.pick (.t 27) (kB true) (.t 32))] [0,1,7,8,33] [])
 (.cond (.t 33) (.seq (.ak [Q 4 (.mv (.k (.str ⟨#[]⟩))),Qi 5 0,Qb 6 false] [4,5,6] [])
 (.ret)) (.skip)))
 (.seq (.seq (.ak [Qm 35 0,Qm 36 1,Qm 37 8,Q 38 (.bin .add (.t 37) (kI 4)),Q 39 (.oj (.t 35) (some (.t 36)) (some (.t 38))),Q 40 (.call 168 [.t 39] [] []),Qm 34 40,Qx 41 0 34,Qx 42 1 34,
   Qm 10 41,Qm 11 42] [7,8,11] [])
 (.seq (.ak [Qm 43 11,Q 44 (.not (.t 43))] [7,8,44] [])
 (.cond (.t 44) (.seq (.ak [Q 4 (.mv (.k (.str ⟨#[]⟩))),Qi 5 0,Qb 6 false] [4,5,6] [])
 (.ret)) (.skip))))
 (.seq (.ak [Qm 45 7,Qm 46 8,Q 47 (.bin .add (.t 46) (kI 4)),Qm 4 45,Qm 5 47,Qb 6 true] [4,5,6] [])
 (.ret)))))
def dG.m:Fn:={np:=2,body:=dG.b,res:=[.tmp 4,.tmp 5,.tmp 6]}
def dG.k(M:Nat→Option Body):Prop:=M 105=some (.code dG.m)∧bV.k M∧fe.k M∧dk.k M
def cR.l0:C:= .block 1 (.seq (.ak [Qm 11 0,Qm 12 5,Q 13 (.call 105 [.t 11,.t 12] [] []),Qm 10 13,Qx 14 0 10,Qx 15 1 10,Qx 16 2 10,Qm 6 14,Qm 7 15,Qm 8 16] [0,4,5,6,7,8] [9,24])
 (.seq (.seq (.ak [Qm 17 8,Q 18 (.not (.t 17))] [0,4,5,6,7,18] [9,24])
 (.cond (.t 18) (.seq (.ak [Qm 19 4,Qm 20 5,Qm 2 19,Qm 3 20] [2,3] [2,9,24])
 (.ret)) (.skip)))
 (.seq (.ak [Qm 21 4,Qm 22 6,Q 23 (.bM 1 1 [.str ⟨#[]⟩] [(0,.t 22)]),Q 24 (.app 1 16 (.t 21) (.t 23)),Qm 4 24] [0,4,7] [9,24])
 (.ak [Qm 25 7,Qm 5 25] [0,4,5] [9,24]))))
def cR.b:C:= .seq (.ak [Q 2 (.nil 1),Qi 3 0] [0] [])
 (.seq (.ak [Q 9 (.bM 1 0 [.str ⟨#[]⟩] []),Qm 4 9] [0,4] [9,24])
 (.seq (.ak [Qi 5 0] [0,4,5] [9,24])
 (.block 0 (.loop cR.l0))))
def cR.m:Fn:={np:=1,body:=cR.b,res:=[.tmp 2,.tmp 3]}
def cR.k(M:Nat→Option Body):Prop:=M 13=some (.code cR.m)∧dG.k M
def bY.b:C:= .seq (.ak [Qi 2 0] [0] [0])
 (.seq (.gw [Qm 7 0,Q 8 (.j5 (.t 7)),Qf 9 0 8,Ql 10 9,Qm 11 0,Q 12 (.j5 (.t 11)),Qf 13 1 12,Ql 14 13,Q 15 (.call 231 [.t 10,.t 14] [] []),Qm 6 15,Qx 16 0 6,Qx 17 1 6,Qx 18 2 6,
   Qm 3 16,Qm 4 17,Qm 5 18] [[],[0],[0,1],[0,1,2],[],[4],[4,5],[4,5,6],lr 8,lr 9,lr 10,lr 10,lr 10,lr 11,lr 12++[13],lr 15] [0,3,4,5] [0])
 (.seq (.seq (.ak [Qm 19 0,Q 20 (.j5 (.t 19)),Qf 21 2 20,Ql 22 21,Qm 23 22,Qg 24 (.mv (.t 5)) 23 false,Qg 25 (.not (.t 24)) 23 false,Q 26 (.pick (.t 23) (kB true) (.t 25))] [0,3,4,26] [0])
 (.cond (.t 26) (.seq (.ak [Qm 27 0,Q 28 (.j5 (.t 27)),Qf 29 2 28,Qn (.store 1 (.t 29) (kB true))] [] [0])
 (.seq (.ak [Qi 2 0] [2] [0])
 (.ret))) (.skip)))
 (.seq (.ak [Qm 30 0,Qm 31 4,Q 32 (.j5 (.t 30)),Qf 33 1 32,Qs 1 33 31] [3] [0])
 (.seq (.ak [Qm 34 3,Qm 2 34] [2] [0])
 (.ret)))))
def bY.m:Fn:={np:=1,body:=bY.b,res:=[.tmp 2]}
def bY.k(M:Nat→Option Body):Prop:=M 152=some (.code bY.m)∧cy.k M
def ee.b:C:= .seq (.ak [Qi 4 0] [0,1] [0])
 (.seq (.ak [Qm 6 0,Q 7 (.call 152 [.t 6] [0] []),Qm 5 7] [0,1,5] [0])
 (.seq (.seq (.ak [Qm 8 5,Qm 9 1,Q 10 (.bin .gtr (.t 8) (.t 9))] [0,5,10] [0])
 (.cond (.t 10) (.ak [Qm 11 0,Q 12 (.j5 (.t 11)),Qf 13 2 12,Qn (.store 1 (.t 13) (kB true))] [0,5] [0]) (.skip)))
 (.seq (.seq (.ak [Qm 14 0,Q 15 (.j5 (.t 14)),Qf 16 2 15,Ql 17 16] [5,17] [0])
 (.cond (.t 17) (.seq (.ak [Qi 4 0] [4] [0])
 (.ret)) (.skip)))
 (.seq (.ak [Qm 18 5,Qm 4 18] [4] [0])
 (.ret)))))
def ee.m:Fn:={np:=2,body:=ee.b,res:=[.tmp 4]}
def ee.k(M:Nat→Option Body):Prop:=M 169=some (.code ee.m)∧bY.k M
def eN.b:C:= .seq (.ak [Q 2 (.mv (.k (.str ⟨#[]⟩)))] [0] [0])
 (.seq (.gw [Qm 7 0,Q 8 (.j5 (.t 7)),Qf 9 0 8,Ql 10 9,Qm 11 0,Q 12 (.j5 (.t 11)),Qf 13 1 12,Ql 14 13,Q 15 (.call 207 [.t 10,.t 14] [] []),Qm 6 15,Qx 16 0 6,Qx 17 1 6,Qx 18 2 6,
   Qm 3 16,Qm 4 17,Qm 5 18] [[],[0],[0,1],[0,1,2],[],[4],[4,5],[4,5,6],lr 8,lr 9,lr 10,lr 10,lr 10,lr 11,lr 12++[13],lr 15] [0,3,4,5] [0])
 (.seq (.seq (.ak [Qm 19 0,Q 20 (.j5 (.t 19)),Qf 21 2 20,Ql 22 21,Qm 23 22,Qg 24 (.mv (.t 5)) 23 false,Qg 25 (.not (.t 24)) 23 false,Q 26 (.pick (.t 23) (kB true) (.t 25))] [0,3,4,26] [0])
 (.cond (.t 26) (.seq (.ak [Qm 27 0,Q 28 (.j5 (.t 27)),Qf 29 2 28,Qn (.store 1 (.t 29) (kB true))] [] [0])
 (.seq (.ak [Q 2 (.mv (.k (.str ⟨#[]⟩)))] [2] [0])
 (.ret))) (.skip)))
 (.seq (.ak [Qm 30 0,Qm 31 4,Q 32 (.j5 (.t 30)),Qf 33 1 32,Qs 1 33 31] [3] [0])
 (.seq (.ak [Qm 34 3,Qm 2 34] [2] [0])
 (.ret)))))
def eN.m:Fn:={np:=1,body:=eN.b,res:=[.tmp 2]}
def eN.k(M:Nat→Option Body):Prop:=M 153=some (.code eN.m)∧dk.k M
def fG.b:C:= .seq (.ak [Q 2 (.alloc [.int .i64 0,.int .i64 0])] [0,2] [0,2])
 (.seq (.ak [Qm 4 0,Q 5 (.call 152 [.t 4] [0] []),Q 6 (.build [.int .i64 0,.int .i64 0] [(0,1,.t 5)]),Q 3 (.alloc [.int .i64 0,.int .i64 0]),Qs 2 3 6] [0,2,3] [0,2,3])
 (.seq (.ak [Qm 7 0,Q 8 (.call 152 [.t 7] [0] []),Qf 9 1 3,Qs 1 9 8] [2,3] [0,2,3])
 (.seq (.ak [QL 10 2 3,Qs 2 2 10] [2] [0,2])
 (.ret))))
def fG.m:Fn:={np:=1,body:=fG.b,res:=[.cell 2 true 2]}
def fG.k(M:Nat→Option Body):Prop:=M 222=some (.code fG.m)∧bY.k M
def dE.l0:C:= .seq (.ak [Q 14 (.bin .lss (.t 13) (.t 12))] [0,5,12,13,14] [0,8,20])
 (.seq (.cond (.t 14) (.skip) (.exit 0))
 (.seq (.block 1 (.seq (.ak [Qm 15 0,Q 16 (.call 152 [.t 15] [0] []),Qm 7 16] [0,5,7,12,13] [0,8,20])
 (.ak [Qm 17 5,Qm 18 7,Q 19 (.bM 1 1 [.int .i64 0] [(0,.t 18)]),Q 20 (.app 1 8 (.t 17) (.t 19)),Qm 5 20] [0,5,12,13] [0,8,20])))
 (.ak [Q 21 (.bin .add (.t 13) (kI 1)),Qm 13 21] [0,5,12,13] [0,8,20])))
def dE.b:C:= .seq (.ak [Q 4 (.nil 1)] [0,1] [0])
 (.seq (.ak [Q 8 (.bM 1 0 [.int .i64 0] []),Qm 5 8] [0,1,5] [0,8,20])
 (.seq (.ak [Qm 9 0,Qm 10 1,Q 11 (.call 169 [.t 9,.t 10] [0] []),Qm 6 11] [0,5,6] [0,8,20])
 (.seq (.seq (.ak [Qm 12 6,Qi 13 0] [0,5,12,13] [0,8,20])
 (.block 0 (.loop dE.l0)))
 (.seq (.ak [Qm 22 5,Qm 4 22] [4] [0,4,8,20])
 (.ret)))))
def dE.m:Fn:={np:=2,body:=dE.b,res:=[.tmp 4]}
def dE.k(M:Nat→Option Body):Prop:=M 170=some (.code dE.m)∧bY.k M∧ee.k M
def eh.l0:C:= .seq (.ak [Q 12 (.bin .lss (.t 11) (kI 3))] [0,2,3,11,12] [0,2,3,23])
 (.seq (.cond (.t 12) (.skip) (.exit 0))
 (.seq (.block 1 (.seq (.ak [Qm 13 0,Q 14 (.call 152 [.t 13] [0] []),Q 15 (.build [.int .i64 0,.int .i64 0,.int .i64 0] [(0,1,.t 14)]),Q 4 (.alloc [.int .i64 0,.int .i64 0,.int .i64 0]),Qs 3 4 15] [0,2,3,4,11] [0,2,3,4,23])
 (.seq (.ak [Qm 16 0,Q 17 (.call 222 [.t 16] [0] []),Qf 18 1 4,Qs 2 18 17] [0,2,3,4,11] [0,2,3,4,23])
 (.ak [Qf 19 2 3,Ql 20 19,QL 21 3 4,Q 22 (.bM 3 1 [.int .i64 0,.int .i64 0,.int .i64 0] [(0,.t 21)]),Q 23 (.app 3 24 (.t 20) (.t 22)),Qf 24 2 3,Qs 1 24 23] [0,2,3,11] [0,2,3,23]))))
 (.ak [Q 25 (.bin .add (.t 11) (kI 1)),Qm 11 25] [0,2,3,11] [0,2,3,23])))
def eh.b:C:= .seq (.ak [Q 2 (.alloc [.int .i64 0,.int .i64 0,.aK 3,.str ⟨#[]⟩])] [0,2] [0,2,23])
 (.seq (.ak [Qm 5 0,Q 6 (.call 152 [.t 5] [0] []),Q 7 (.build [.int .i64 0,.int .i64 0,.aK 3,.str ⟨#[]⟩] [(0,1,.t 6)]),Q 3 (.alloc [.int .i64 0,.int .i64 0,.aK 3,.str ⟨#[]⟩]),
   Qs 4 3 7] [0,2,3] [0,2,3,23])
 (.seq (.ak [Qm 8 0,Q 9 (.call 152 [.t 8] [0] []),Qf 10 1 3,Qs 1 10 9] [0,2,3] [0,2,3,23])
 (.seq (.seq (.ak [Qi 11 0] [0,2,3,11] [0,2,3,23])
 (.block 0 (.loop eh.l0)))
 (.seq (.ak [Qm 26 0,Q 27 (.call 153 [.t 26] [0] []),Qf 28 3 3,Qs 1 28 27] [2,3] [0,2,3,23])
 (.seq (.ak [QL 29 4 3,Qs 4 2 29] [2] [0,2,23])
 (.ret))))))
def eh.m:Fn:={np:=1,body:=eh.b,res:=[.cell 2 true 4]}
def eh.k(M:Nat→Option Body):Prop:=M 223=some (.code eh.m)∧bY.k M∧eN.k M∧fG.k M
def dF.l0:C:= .seq (.ak [Q 22 (.bin .lss (.t 21) (.t 20))] [0,2,3,20,21,22] [0,2,3,29,13300])
 (.seq (.cond (.t 22) (.skip) (.exit 0))
 (.seq (.block 1 (.seq (.ak [Qm 23 0,Q 24 (.call 223 [.t 23] [0] []),Q 5 (.alloc [.int .i64 0,.int .i64 0,.aK 3,.str ⟨#[]⟩]),Qs 4 5 24] [0,2,3,5,20,21] [0,2,3,5,29,13300])
 (.ak [Qf 25 5 3,Ql 26 25,QL 27 4 5,Q 28 (.bM 4 1 [.int .i64 0,.int .i64 0,.aK 3,.str ⟨#[]⟩] [(0,.t 27)]),Q 29 (.app 4 56 (.t 26) (.t 28)),Qf 30 5 3,Qs 1 30 29] [0,2,3,20,21] [0,2,3,29,13300])))
 (.ak [Q 31 (.bin .add (.t 21) (kI 1)),Qm 21 31] [0,2,3,20,21] [0,2,3,29,13300])))
def dF.b:C:= .seq (.ak [Q 2 (.alloc [.int .i64 0,.str ⟨#[]⟩,.int .i64 0,.int .i64 0,.int .i64 0,.aK 4,.aK 1])] [0,2] [0,2,29,13300])
 (.seq (.ak [Qm 6 0,Q 7 (.call 152 [.t 6] [0] []),Q 8 (.build [.int .i64 0,.str ⟨#[]⟩,.int .i64 0,.int .i64 0,.int .i64 0,.aK 4,.aK 1] [(0,1,.t 7)]),
   Q 3 (.alloc [.int .i64 0,.str ⟨#[]⟩,.int .i64 0,.int .i64 0,.int .i64 0,.aK 4,.aK 1]),Qs 7 3 8] [0,2,3] [0,2,3,29,13300])
 (.seq (.ak [Qm 9 0,Q 10 (.call 153 [.t 9] [0] []),Qf 11 1 3,Qs 1 11 10] [0,2,3] [0,2,3,29,13300])
 (.seq (.ak [Qm 12 0,Q 13 (.call 222 [.t 12] [0] []),Qf 14 2 3,Qs 2 14 13] [0,2,3] [0,2,3,29,13300])
 (.seq (.ak [Qm 15 0,Q 16 (.call 152 [.t 15] [0] []),Qf 17 4 3,Qs 1 17 16] [0,2,3] [0,2,3,29,13300])
 (.seq (.ak [Qm 18 0,Q 19 (.call 169 [.t 18,kI 10] [0] []),Qm 4 19] [0,2,3,4] [0,2,3,29,13300])
 (.seq (.seq (.ak [Qm 20 4,Qi 21 0] [0,2,3,20,21] [0,2,3,29,13300])
 (.block 0 (.loop dF.l0)))
 (.seq (.ak [Qm 32 0,Q 33 (.call 170 [.t 32,kI 40] [0] [(0,13300)]),Qf 34 6 3,Qs 1 34 33] [2,3] [0,2,3,29,13300])
 (.seq (.ak [QL 35 7 3,Qs 7 2 35] [2] [0,2,29,13300])
 (.ret)))))))))
def dF.m:Fn:={np:=1,body:=dF.b,res:=[.cell 2 true 7]}
def dF.k(M:Nat→Option Body):Prop:=M 143=some (.code dF.m)∧bY.k M∧eN.k M∧ee.k M∧dE.k M∧fG.k M∧eh.k M
def cJ.b:C:= .seq (.ak [Qi 2 0] [0] [0])
 (.seq (.gw [Qm 7 0,Q 8 (.j5 (.t 7)),Qf 9 0 8,Ql 10 9,Qm 11 0,Q 12 (.j5 (.t 11)),Qf 13 1 12,Ql 14 13,Q 15 (.call 221 [.t 10,.t 14] [] []),Qm 6 15,Qx 16 0 6,Qx 17 1 6,Qx 18 2 6,
   Qm 3 16,Qm 4 17,Qm 5 18] [[],[0],[0,1],[0,1,2],[],[4],[4,5],[4,5,6],lr 8,lr 9,lr 10,lr 10,lr 10,lr 11,lr 12++[13],lr 15] [0,3,4,5] [0])
 (.seq (.seq (.ak [Qm 19 0,Q 20 (.j5 (.t 19)),Qf 21 2 20,Ql 22 21,Qm 23 22,Qg 24 (.mv (.t 5)) 23 false,Qg 25 (.not (.t 24)) 23 false,Q 26 (.pick (.t 23) (kB true) (.t 25))] [0,3,4,26] [0])
 (.cond (.t 26) (.seq (.ak [Qm 27 0,Q 28 (.j5 (.t 27)),Qf 29 2 28,Qn (.store 1 (.t 29) (kB true))] [] [0])
 (.seq (.ak [Qi 2 0] [2] [0])
 (.ret))) (.skip)))
 (.seq (.ak [Qm 30 0,Qm 31 4,Q 32 (.j5 (.t 30)),Qf 33 1 32,Qs 1 33 31] [3] [0])
 (.seq (.ak [Qm 34 3,Qm 2 34] [2] [0])
 (.ret)))))
def cJ.m:Fn:={np:=1,body:=cJ.b,res:=[.tmp 2]}
def cJ.k(M:Nat→Option Body):Prop:=M 139=some (.code cJ.m)∧cv.k M
def gM.b:C:= .seq (.ak [Q 2 (.mv (.k (.str ⟨#[]⟩)))] [0] [0])
 (.seq (.gw [Qm 7 0,Q 8 (.j5 (.t 7)),Qf 9 0 8,Ql 10 9,Qm 11 0,Q 12 (.j5 (.t 11)),Qf 13 1 12,Ql 14 13,Q 15 (.call 206 [.t 10,.t 14] [] []),Qm 6 15,Qx 16 0 6,Qx 17 1 6,Qx 18 2 6,
   Qm 3 16,Qm 4 17,Qm 5 18] [[],[0],[0,1],[0,1,2],[],[4],[4,5],[4,5,6],lr 8,lr 9,lr 10,lr 10,lr 10,lr 11,lr 12++[13],lr 15] [0,3,4,5] [0])
 (.seq (.seq (.ak [Qm 19 0,Q 20 (.j5 (.t 19)),Qf 21 2 20,Ql 22 21,Qm 23 22,Qg 24 (.mv (.t 5)) 23 false,Qg 25 (.not (.t 24)) 23 false,Q 26 (.pick (.t 23) (kB true) (.t 25))] [0,3,4,26] [0])
 (.cond (.t 26) (.seq (.ak [Qm 27 0,Q 28 (.j5 (.t 27)),Qf 29 2 28,Qn (.store 1 (.t 29) (kB true))] [] [0])
 (.seq (.ak [Q 2 (.mv (.k (.str ⟨#[]⟩)))] [2] [0])
 (.ret))) (.skip)))
 (.seq (.ak [Qm 30 0,Qm 31 4,Q 32 (.j5 (.t 30)),Qf 33 1 32,Qs 1 33 31] [3] [0])
 (.seq (.ak [Qm 34 3,Qm 2 34] [2] [0])
 (.ret)))))
def gM.m:Fn:={np:=1,body:=gM.b,res:=[.tmp 2]}
def gM.k(M:Nat→Option Body):Prop:=M 140=some (.code gM.m)∧dX.k M
def eE.l0:C:= .seq (.seq (.ak [Qm 11 7,Qm 12 5,Q 13 (.bin .lss (.t 11) (.t 12)),Qm 14 13,Qg 15 (.mv (.t 7)) 14 true,Qg 16 (.mv (.t 1)) 14 true,Qg 17 (.bin .leq (.t 15) (.t 16)) 14 true,
    Q 18 (.pick (.t 14) (.t 17) (kB false)),Qm 19 18,Qg 20 (.mv (.t 0)) 19 true,Qg 21 (.j5 (.t 20)) 19 true,Qg 22 (.bC 2 (.t 21)) 19 true,
    Qg 23 (.load false 1 (.t 22)) 19 true,Qg 24 (.not (.t 23)) 19 true,Q 25 (.pick (.t 19) (.t 24) (kB false))] [0,1,5,6,7,25] [0,10,32])
 (.cond (.t 25) (.skip) (.exit 0)))
 (.seq (.block 1 (.ak [Qm 28 6,Qm 29 0,Q 30 (.call 139 [.t 29] [0] []),Q 31 (.bM 1 1 [.int .i64 0] [(0,.t 30)]),Q 32 (.app 1 8 (.t 28) (.t 31)),Qm 6 32] [0,1,5,6,7] [0,10,32]))
 (.ak [Qm 26 7,Q 27 (.bin .add (.t 26) (kI 1)),Qm 7 27] [0,1,5,6,7] [0,10,32]))
def eE.b:C:= .seq (.ak [Q 4 (.nil 1)] [0,1] [0])
 (.seq (.ak [Qm 8 0,Q 9 (.call 139 [.t 8] [0] []),Qm 5 9] [0,1,5] [0])
 (.seq (.ak [Q 10 (.bM 1 0 [.int .i64 0] []),Qm 6 10] [0,1,5,6] [0,10,32])
 (.seq (.seq (.ak [Qi 7 0] [0,1,5,6,7] [0,10,32])
 (.block 0 (.loop eE.l0)))
 (.seq (.ak [Qm 33 6,Qm 4 33] [4] [0,4,10,32])
 (.ret)))))
def eE.m:Fn:={np:=2,body:=eE.b,res:=[.tmp 4]}
def eE.k(M:Nat→Option Body):Prop:=M 142=some (.code eE.m)∧cJ.k M
def dz.l0:C:= .seq (.seq (.ak [Qm 21 9,Q 22 (.bin .lss (.t 21) (kI 3))] [4,7,8,9,22] [4,8,14,40])
 (.cond (.t 22) (.skip) (.exit 0)))
 (.seq (.block 1 (.seq (.ak [Qm 25 7,Q 26 (.call 139 [.t 25] [0] []),Q 27 (.build [.int .i64 0,.int .i64 0,.int .i64 0] [(0,1,.t 26)]),Q 10 (.alloc [.int .i64 0,.int .i64 0,.int .i64 0]),Qs 3 10 27] [4,7,8,9,10] [4,8,10,14,40])
 (.seq (.ak [Qm 28 7,Q 29 (.call 139 [.t 28] [0] []),Qf 30 1 10,Qf 31 0 30,Qs 1 31 29] [4,7,8,9,10] [4,8,10,14,40])
 (.seq (.ak [Qm 32 7,Q 33 (.call 139 [.t 32] [0] []),Qf 34 1 10,Qf 35 1 34,Qs 1 35 33] [4,7,8,9,10] [4,8,10,14,40])
 (.ak [Qf 36 2 8,Ql 37 36,QL 38 3 10,Q 39 (.bM 3 1 [.int .i64 0,.int .i64 0,.int .i64 0] [(0,.t 38)]),Q 40 (.app 3 24 (.t 37) (.t 39)),Qf 41 2 8,Qs 1 41 40] [4,7,8,9] [4,8,14,40])))))
 (.ak [Qm 23 9,Q 24 (.bin .add (.t 23) (kI 1)),Qm 9 24] [4,7,8,9] [4,8,14,40]))
def dz.b:C:= .seq (.ak [Q 4 (.alloc [.int .i64 0,.int .i64 0,.aK 3,.str ⟨#[]⟩]),Qi 5 0,Qb 6 false] [0,1,4] [4,40])
 (.seq (.ak [Qm 11 0,Qm 12 1,Q 13 (.build [.str ⟨#[]⟩,.int .i64 0,.bool false] [(0,1,.t 11),(1,1,.t 12)]),Qv 14 13,Qm 7 14] [4,7] [4,14,40])
 (.seq (.ak [Qm 15 7,Q 16 (.call 139 [.t 15] [0] []),Q 17 (.build [.int .i64 0,.int .i64 0,.aK 3,.str ⟨#[]⟩] [(0,1,.t 16)]),
   Q 8 (.alloc [.int .i64 0,.int .i64 0,.aK 3,.str ⟨#[]⟩]),Qs 4 8 17] [4,7,8] [4,8,14,40])
 (.seq (.ak [Qm 18 7,Q 19 (.call 139 [.t 18] [0] []),Qf 20 1 8,Qs 1 20 19] [4,7,8] [4,8,14,40])
 (.seq (.seq (.ak [Qi 9 0] [4,7,8,9] [4,8,14,40])
 (.block 0 (.loop dz.l0)))
 (.seq (.ak [Qm 42 7,Q 43 (.call 140 [.t 42] [0] []),Qf 44 3 8,Qs 1 44 43] [4,7,8] [4,8,14,40])
 (.seq (.seq (.ak [Qm 45 7,Q 46 (.j5 (.t 45)),Qf 47 2 46,Ql 48 47,Qm 49 48,Qg 50 (.load true 4 (.t 8)) 49 false,Qg 51 (.call 187 [.t 50] [] []) 49 false,Qg 52 (.not (.t 51)) 49 false,
   Q 53 (.pick (.t 49) (kB true) (.t 52))] [4,7,8,53] [4,8,14,40])
 (.cond (.t 53) (.seq (.ak [Q 54 (.build [.int .i64 0,.int .i64 0,.aK 3,.str ⟨#[]⟩] []),Qs 4 4 54,Qi 5 0,Qb 6 false] [4,5,6] [4,40])
 (.ret)) (.skip)))
 (.seq (.gw [QL 55 4 8,Qm 56 7,Q 57 (.j5 (.t 56)),Qf 58 1 57,Ql 59 58,Qs 4 4 55,Qm 5 59,Qb 6 true] [[],[],[1],[1,2],[1,2,3],[0],lr 6,lr 7] [4,5,6] [4,40])
 (.ret))))))))
def dz.m:Fn:={np:=2,body:=dz.b,res:=[.cell 4 true 4,.tmp 5,.tmp 6]}
def dz.k(M:Nat→Option Body):Prop:=M 141=some (.code dz.m)∧cJ.k M∧gM.k M∧d_.k M
def bX.l0:C:= .seq (.seq (.ak [Qm 37 10,Qm 38 9,Q 39 (.bin .lss (.t 37) (.t 38)),Qm 40 39,Qg 41 (.mv (.t 10)) 40 true,Qg 42 (.bin .leq (.t 41) (kI 10)) 40 true,Q 43 (.pick (.t 40) (.t 42) (kB false)),
    Qm 44 43,Qg 45 (.mv (.t 7)) 44 true,Qg 46 (.j5 (.t 45)) 44 true,Qg 47 (.bC 2 (.t 46)) 44 true,Qg 48 (.load false 1 (.t 47)) 44 true,Qg 49 (.not (.t 48)) 44 true,
    Q 50 (.pick (.t 44) (.t 49) (kB false))] [0,4,7,8,9,10,50] [4,8,17,70,17700])
 (.cond (.t 50) (.skip) (.exit 0)))
 (.seq (.block 1 (.seq (.ak [Qm 54 0,Qm 55 7,Q 56 (.j5 (.t 55)),Qf 57 1 56,Ql 58 57,Q 59 (.call 141 [.t 54,.t 58] [] []),Qm 53 59,Qx 60 0 53,Qx 61 1 53,Qx 62 2 53,
   Q 11 (.alloc [.int .i64 0,.int .i64 0,.aK 3,.str ⟨#[]⟩]),Qs 4 11 60,Qm 12 61,Qm 13 62] [0,4,7,8,9,10,11,12,13] [4,8,11,17,70,17700])
 (.seq (.seq (.ak [Qm 63 13,Q 64 (.not (.t 63))] [0,4,7,8,9,10,11,12,64] [4,8,11,17,70,17700])
 (.cond (.t 64) (.seq (.ak [Q 65 (.build [.int .i64 0,.str ⟨#[]⟩,.int .i64 0,.int .i64 0,.int .i64 0,.aK 4,.aK 1] []),Qs 7 4 65,Qi 5 0,Qb 6 false] [4,5,6] [4,70,17700])
 (.ret)) (.skip)))
 (.seq (.ak [Qf 66 5 8,Ql 67 66,QL 68 4 11,Q 69 (.bM 4 1 [.int .i64 0,.int .i64 0,.aK 3,.str ⟨#[]⟩] [(0,.t 68)]),Q 70 (.app 4 56 (.t 67) (.t 69)),Qf 71 5 8,Qs 1 71 70] [0,4,7,8,9,10,12] [4,8,17,70,17700])
 (.ak [Qm 72 7,Qm 73 12,Q 74 (.j5 (.t 72)),Qf 75 1 74,Qs 1 75 73] [0,4,7,8,9,10] [4,8,17,70,17700])))))
 (.ak [Qm 51 10,Q 52 (.bin .add (.t 51) (kI 1)),Qm 10 52] [0,4,7,8,9,10] [4,8,17,70,17700]))
def bX.b:C:= .seq (.ak [Q 4 (.alloc [.int .i64 0,.str ⟨#[]⟩,.int .i64 0,.int .i64 0,.int .i64 0,.aK 4,.aK 1]),Qi 5 0,Qb 6 false] [0,1,4] [4,70,17700])
 (.seq (.ak [Qm 14 0,Qm 15 1,Q 16 (.build [.str ⟨#[]⟩,.int .i64 0,.bool false] [(0,1,.t 14),(1,1,.t 15)]),Qv 17 16,Qm 7 17] [0,4,7] [4,17,70,17700])
 (.seq (.ak [Qm 18 7,Q 19 (.call 139 [.t 18] [0] []),Q 20 (.build [.int .i64 0,.str ⟨#[]⟩,.int .i64 0,.int .i64 0,.int .i64 0,.aK 4,.aK 1] [(0,1,.t 19)]),
   Q 8 (.alloc [.int .i64 0,.str ⟨#[]⟩,.int .i64 0,.int .i64 0,.int .i64 0,.aK 4,.aK 1]),Qs 7 8 20] [0,4,7,8] [4,8,17,70,17700])
 (.seq (.ak [Qm 21 7,Q 22 (.call 140 [.t 21] [0] []),Qf 23 1 8,Qs 1 23 22] [0,4,7,8] [4,8,17,70,17700])
 (.seq (.ak [Qm 24 7,Q 25 (.call 139 [.t 24] [0] []),Qf 26 2 8,Qf 27 0 26,Qs 1 27 25] [0,4,7,8] [4,8,17,70,17700])
 (.seq (.ak [Qm 28 7,Q 29 (.call 139 [.t 28] [0] []),Qf 30 2 8,Qf 31 1 30,Qs 1 31 29] [0,4,7,8] [4,8,17,70,17700])
 (.seq (.ak [Qm 32 7,Q 33 (.call 139 [.t 32] [0] []),Qf 34 4 8,Qs 1 34 33] [0,4,7,8] [4,8,17,70,17700])
 (.seq (.ak [Qm 35 7,Q 36 (.call 139 [.t 35] [0] []),Qm 9 36] [0,4,7,8,9] [4,8,17,70,17700])
 (.seq (.seq (.ak [Qi 10 0] [0,4,7,8,9,10] [4,8,17,70,17700])
 (.block 0 (.loop bX.l0)))
 (.seq (.ak [Qm 76 7,Q 77 (.call 142 [.t 76,kI 40] [0] [(0,17700)]),Qf 78 6 8,Qs 1 78 77] [4,7,8] [4,8,17,70,17700])
 (.seq (.seq (.ak [Qm 79 7,Q 80 (.j5 (.t 79)),Qf 81 2 80,Ql 82 81,Qm 83 82,Qg 84 (.load true 7 (.t 8)) 83 false,Qg 85 (.call 88 [.t 84] [] []) 83 false,Qg 86 (.not (.t 85)) 83 false,
   Q 87 (.pick (.t 83) (kB true) (.t 86))] [4,7,8,87] [4,8,17,70,17700])
 (.cond (.t 87) (.seq (.ak [Q 88 (.build [.int .i64 0,.str ⟨#[]⟩,.int .i64 0,.int .i64 0,.int .i64 0,.aK 4,.aK 1] []),Qs 7 4 88,Qi 5 0,Qb 6 false] [4,5,6] [4,70,17700])
 (.ret)) (.skip)))
 (.seq (.gw [QL 89 7 8,Qm 90 7,Q 91 (.j5 (.t 90)),Qf 92 1 91,Ql 93 92,Qs 7 4 89,Qm 5 93,Qb 6 true] [[],[],[1],[1,2],[1,2,3],[0],lr 6,lr 7] [4,5,6] [4,70,17700])
 (.ret))))))))))))
def bX.m:Fn:={np:=2,body:=bX.b,res:=[.cell 4 true 7,.tmp 5,.tmp 6]}
def bX.k(M:Nat→Option Body):Prop:=M 52=some (.code bX.m)∧bE.k M∧cJ.k M∧gM.k M∧dz.k M∧eE.k M
def ch.l0:C:= .seq (.seq (.ak [Qm 24 5,Qf 25 2 1,Ql 26 25,Q 27 (.len (.t 26)),Q 28 (.bin .lss (.t 24) (.t 27))] [1,4,5,28] [1])
 (.cond (.t 28) (.skip) (.exit 0)))
 (.seq (.block 1 (.seq (.ak [Qf 32 2 1,Ql 33 32,Qm 34 5,Qa 35 7 33 34,QL 36 7 35,Q 37 (.call 34 [.t 36] [] []),Qm 31 37,Qx 38 0 31,Qx 39 1 31,Qm 6 38,Qm 7 39] [1,4,5,6] [1])
 (.ak [Qm 40 4,Qm 41 6,Q 42 (.bin .add (.t 40) (.t 41)),Qm 4 42] [1,4,5] [1])))
 (.ak [Qm 29 5,Q 30 (.bin .add (.t 29) (kI 1)),Qm 5 30] [1,4,5] [1]))
def ch.l1:C:= .seq (.seq (.ak [Qm 49 8,Qf 50 3 1,Ql 51 50,Q 52 (.len (.t 51)),Q 53 (.bin .lss (.t 49) (.t 52))] [1,4,8,53] [1])
 (.cond (.t 53) (.skip) (.exit 2)))
 (.seq (.block 3 (.ak [Qm 56 4,Qf 57 3 1,Ql 58 57,Qm 59 8,Qa 60 1 58 59,Ql 61 60,Q 62 (.call 99 [.t 61] [] []),Q 63 (.bin .add (.t 56) (.t 62)),Qm 4 63] [1,4,8] [1]))
 (.ak [Qm 54 8,Q 55 (.bin .add (.t 54) (kI 1)),Qm 8 55] [1,4,8] [1]))
def ch.b:C:= .seq (.ak [Qv 1 0,Q 2 (.mv (.k (.str ⟨#[]⟩))),Qb 3 false] [1] [1])
 (.seq (.seq (.ak [QL 9 4 1,Q 10 (.call 149 [.t 9] [] []),Q 11 (.not (.t 10))] [1,11] [1])
 (.cond (.t 11) (.seq (.ak [Q 2 (.mv (.k (.str ⟨#[]⟩))),Qb 3 false] [2,3] [])
 (.ret)) (.skip)))
 (.seq (.gw [Qf 12 0 1,Ql 13 12,Q 14 (.call 99 [.t 13] [] []),Qf 15 1 1,Ql 16 15,Q 17 (.call 99 [.t 16] [] []),Q 18 (.bin .add (.t 14) (.t 17)),Qf 19 2 1,Ql 20 19,Q 21 (.len (.t 20)),
   Q 22 (.call 99 [.t 21] [] []),Q 23 (.bin .add (.t 18) (.t 22)),Qm 4 23] [[],[0],[0,1],[],[3],lr 5,lr 6,[],[7],[7,8],lr 6++[7,8,9],lr 11,lr 12] [1,4] [1])
 (.seq (.seq (.ak [Qi 5 0] [1,4,5] [1])
 (.block 0 (.loop ch.l0)))
 (.seq (.ak [Qm 43 4,Qf 44 3 1,Ql 45 44,Q 46 (.len (.t 45)),Q 47 (.call 99 [.t 46] [] []),Q 48 (.bin .add (.t 43) (.t 47)),Qm 4 48] [1,4] [1])
 (.seq (.seq (.ak [Qi 8 0] [1,4,8] [1])
 (.block 2 (.loop ch.l1)))
 (.seq (.ak [Qm 64 4,Q 65 (.call 100 [.t 64] [] []),Qx 66 0 65,Qx 67 1 65,Qm 2 66,Qm 3 67] [2,3] [])
 (.ret)))))))
def ch.m:Fn:={np:=1,body:=ch.b,res:=[.tmp 2,.tmp 3]}
def ch.k(M:Nat→Option Body):Prop:=M 60=some (.code ch.m)∧dv.k M∧bH.k M∧ig.k M∧aL.k M
def bl.l0:C:= .seq (.seq (.ak [Qm 33 9,Qm 34 8,Q 35 (.bin .lss (.t 33) (.t 34)),Qm 36 35,Qg 37 (.mv (.t 9)) 36 true,Qg 38 (.bin .leq (.t 37) (kI 5)) 36 true,Q 39 (.pick (.t 36) (.t 38) (kB false)),
    Qm 40 39,Qg 41 (.mv (.t 6)) 40 true,Qg 42 (.j5 (.t 41)) 40 true,Qg 43 (.bC 2 (.t 42)) 40 true,Qg 44 (.load false 1 (.t 43)) 40 true,Qg 45 (.not (.t 44)) 40 true,
    Q 46 (.pick (.t 40) (.t 45) (kB false))] [0,2,4,6,7,8,9,46] [2,7,24,66,17300])
 (.cond (.t 46) (.skip) (.exit 0)))
 (.seq (.block 1 (.seq (.ak [Qm 50 4,Qm 51 6,Q 52 (.j5 (.t 51)),Qf 53 1 52,Ql 54 53,Q 55 (.call 52 [.t 50,.t 54] [] []),Qm 49 55,Qx 56 0 49,Qx 57 1 49,Qx 58 2 49,
   Q 10 (.alloc [.int .i64 0,.str ⟨#[]⟩,.int .i64 0,.int .i64 0,.int .i64 0,.aK 4,.aK 1]),Qs 7 10 56,Qm 11 57,Qm 12 58] [0,2,4,6,7,8,9,10,11,12] [2,7,10,24,66,17300])
 (.seq (.seq (.ak [Qm 59 12,Q 60 (.not (.t 59))] [0,2,4,6,7,8,9,10,11,60] [2,7,10,24,66,17300])
 (.cond (.t 60) (.seq (.ak [Q 61 (.build [.int .i64 0,.int .i64 0,.aK 7,.aK 1] []),Qs 4 2 61,Qb 3 false] [2,3] [2,66,17300])
 (.ret)) (.skip)))
 (.seq (.ak [Qf 62 2 7,Ql 63 62,QL 64 7 10,Q 65 (.bM 7 1 [.int .i64 0,.str ⟨#[]⟩,.int .i64 0,.int .i64 0,.int .i64 0,.aK 4,.aK 1] [(0,.t 64)]),
   Q 66 (.app 7 96 (.t 63) (.t 65)),Qf 67 2 7,Qs 1 67 66] [0,2,4,6,7,8,9,11] [2,7,24,66,17300])
 (.ak [Qm 68 6,Qm 69 11,Q 70 (.j5 (.t 68)),Qf 71 1 70,Qs 1 71 69] [0,2,4,6,7,8,9] [2,7,24,66,17300])))))
 (.ak [Qm 47 9,Q 48 (.bin .add (.t 47) (kI 1)),Qm 9 48] [0,2,4,6,7,8,9] [2,7,24,66,17300]))
def bl.b:C:= .seq (.ak [Q 2 (.alloc [.int .i64 0,.int .i64 0,.aK 7,.aK 1]),Qb 3 false] [0,2] [2,66,17300])
 (.seq (.ak [Qm 16 0,Q 17 (.call 167 [.t 16] [] []),Qm 15 17,Qx 18 0 15,Qx 19 1 15,Qm 4 18,Qm 5 19] [0,2,4,5] [2,66,17300])
 (.seq (.ak [Qm 20 4,Qm 21 5,Q 22 (.not (.t 21)),Q 23 (.build [.str ⟨#[]⟩,.int .i64 0,.bool false] [(0,1,.t 20),(2,1,.t 22)]),Qv 24 23,Qm 6 24] [0,2,4,6] [2,24,66,17300])
 (.seq (.ak [Qm 25 6,Q 26 (.call 139 [.t 25] [0] []),Q 27 (.build [.int .i64 0,.int .i64 0,.aK 7,.aK 1] [(0,1,.t 26)]),Q 7 (.alloc [.int .i64 0,.int .i64 0,.aK 7,.aK 1]),
   Qs 4 7 27] [0,2,4,6,7] [2,7,24,66,17300])
 (.seq (.ak [Qm 28 6,Q 29 (.call 139 [.t 28] [0] []),Qf 30 1 7,Qs 1 30 29] [0,2,4,6,7] [2,7,24,66,17300])
 (.seq (.ak [Qm 31 6,Q 32 (.call 139 [.t 31] [0] []),Qm 8 32] [0,2,4,6,7,8] [2,7,24,66,17300])
 (.seq (.seq (.ak [Qi 9 0] [0,2,4,6,7,8,9] [2,7,24,66,17300])
 (.block 0 (.loop bl.l0)))
 (.seq (.ak [Qm 72 6,Q 73 (.call 142 [.t 72,kI 20] [0] [(0,17300)]),Qf 74 3 7,Qs 1 74 73] [0,2,6,7] [2,7,24,66,17300])
 (.seq (.ak [QL 76 4 7,Q 77 (.call 60 [.t 76] [] []),Qm 75 77,Qx 78 0 75,Qx 79 1 75,Qm 13 78,Qm 14 79] [0,2,6,7,13,14] [2,7,24,66,17300])
 (.seq (.seq (.ak [Qm 80 6,Q 81 (.j5 (.t 80)),Qf 82 2 81,Ql 83 82,Qm 84 83,Qg 85 (.mv (.t 14)) 84 false,Qg 86 (.not (.t 85)) 84 false,Q 87 (.pick (.t 84) (kB true) (.t 86)),Qm 88 87,
   Qg 89 (.mv (.t 13)) 88 false,Qg 90 (.mv (.t 0)) 88 false,Qg 91 (.bin .neq (.t 89) (.t 90)) 88 false,Q 92 (.pick (.t 88) (kB true) (.t 91))] [2,7,92] [2,7,66,17300])
 (.cond (.t 92) (.seq (.ak [Q 93 (.build [.int .i64 0,.int .i64 0,.aK 7,.aK 1] []),Qs 4 2 93,Qb 3 false] [2,3] [2,66,17300])
 (.ret)) (.skip)))
 (.seq (.ak [QL 94 4 7,Qs 4 2 94,Qb 3 true] [2,3] [2,66,17300])
 (.ret)))))))))))
def bl.m:Fn:={np:=1,body:=bl.b,res:=[.cell 2 true 4,.tmp 3]}
def bl.k(M:Nat→Option Body):Prop:=M 75=some (.code bl.m)∧bX.k M∧ch.k M∧cJ.k M∧eE.k M∧fb.k M
def bI.l0:C:= .seq (.ak [Q 28 (.bin .lss (.t 27) (.t 26))] [2,4,5,6,7,26,27,28] [2,7,17,35,13900])
 (.seq (.cond (.t 28) (.skip) (.exit 0))
 (.seq (.block 1 (.seq (.ak [Qm 29 6,Q 30 (.call 143 [.t 29] [0] []),Q 9 (.alloc [.int .i64 0,.str ⟨#[]⟩,.int .i64 0,.int .i64 0,.int .i64 0,.aK 4,.aK 1]),Qs 7 9 30] [2,4,5,6,7,9,26,27] [2,7,9,17,35,13900])
 (.ak [Qf 31 2 7,Ql 32 31,QL 33 7 9,Q 34 (.bM 7 1 [.int .i64 0,.str ⟨#[]⟩,.int .i64 0,.int .i64 0,.int .i64 0,.aK 4,.aK 1] [(0,.t 33)]),Q 35 (.app 7 96 (.t 32) (.t 34)),
   Qf 36 2 7,Qs 1 36 35] [2,4,5,6,7,26,27] [2,7,17,35,13900])))
 (.ak [Q 37 (.bin .add (.t 27) (kI 1)),Qm 27 37] [2,4,5,6,7,26,27] [2,7,17,35,13900])))
def bI.b:C:= .seq (.ak [Q 2 (.alloc [.int .i64 0,.int .i64 0,.aK 7,.aK 1]),Qb 3 false] [0,2] [2,35,13900])
 (.seq (.ak [Qm 11 0,Q 12 (.call 168 [.t 11] [] []),Qm 10 12,Qx 13 0 10,Qx 14 1 10,Qm 4 13,Qm 5 14] [2,4,5] [2,35,13900])
 (.seq (.ak [Qm 15 4,Q 16 (.build [.str ⟨#[]⟩,.int .i64 0,.bool false] [(0,1,.t 15)]),Qv 17 16,Qm 6 17] [2,4,5,6] [2,17,35,13900])
 (.seq (.ak [Qm 18 6,Q 19 (.call 152 [.t 18] [0] []),Q 20 (.build [.int .i64 0,.int .i64 0,.aK 7,.aK 1] [(0,1,.t 19)]),Q 7 (.alloc [.int .i64 0,.int .i64 0,.aK 7,.aK 1]),
   Qs 4 7 20] [2,4,5,6,7] [2,7,17,35,13900])
 (.seq (.ak [Qm 21 6,Q 22 (.call 152 [.t 21] [0] []),Qf 23 1 7,Qs 1 23 22] [2,4,5,6,7] [2,7,17,35,13900])
 (.seq (.ak [Qm 24 6,Q 25 (.call 169 [.t 24,kI 5] [0] []),Qm 8 25] [2,4,5,6,7,8] [2,7,17,35,13900])
 (.seq (.seq (.ak [Qm 26 8,Qi 27 0] [2,4,5,6,7,26,27] [2,7,17,35,13900])
 (.block 0 (.loop bI.l0)))
 (.seq (.ak [Qm 38 6,Q 39 (.call 170 [.t 38,kI 20] [0] [(0,13900)]),Qf 40 3 7,Qs 1 40 39] [2,4,5,6,7] [2,7,17,35,13900])
 (.seq (.seq (.ak [Qm 41 5,Q 42 (.not (.t 41)),Qm 43 42,Qg 44 (.mv (.t 6)) 43 false,Qg 45 (.j5 (.t 44)) 43 false,Qg 46 (.bC 2 (.t 45)) 43 false,Qg 47 (.load false 1 (.t 46)) 43 false,
   Q 48 (.pick (.t 43) (kB true) (.t 47)),Qm 49 48,Qg 50 (.mv (.t 6)) 49 false,Qg 51 (.j5 (.t 50)) 49 false,Qg 52 (.bC 1 (.t 51)) 49 false,
   Qg 53 (.load false 1 (.t 52)) 49 false,Qg 54 (.mv (.t 4)) 49 false,Qg 55 (.j0 (.t 54)) 49 false,Qg 56 (.bin .neq (.t 53) (.t 55)) 49 false,
   Q 57 (.pick (.t 49) (kB true) (.t 56)),Qm 58 57,Qg 59 (.load true 4 (.t 7)) 58 false,Qg 60 (.call 150 [.t 59] [] []) 58 false,Qg 61 (.not (.t 60)) 58 false,
   Q 62 (.pick (.t 58) (kB true) (.t 61))] [2,7,62] [2,7,35,13900])
 (.cond (.t 62) (.seq (.ak [Q 63 (.build [.int .i64 0,.int .i64 0,.aK 7,.aK 1] []),Qs 4 2 63,Qb 3 false] [2,3] [2,35,13900])
 (.ret)) (.skip)))
 (.seq (.ak [QL 64 4 7,Qs 4 2 64,Qb 3 true] [2,3] [2,35,13900])
 (.ret))))))))))
def bI.m:Fn:={np:=1,body:=bI.b,res:=[.cell 2 true 4,.tmp 3]}
def bI.k(M:Nat→Option Body):Prop:=M 76=some (.code bI.m)∧dF.k M∧aJ.k M∧bY.k M∧fe.k M∧ee.k M∧dE.k M
def dj.l0:C:= .seq (.ak [Q 23 (.bin .lss (.t 22) (.t 21))] [1,4,20,21,22,23] [1])
 (.seq (.cond (.t 23) (.skip) (.exit 0))
 (.seq (.block 1 (.seq (.ak [Qa 24 7 20 22,QL 25 7 24,Q 6 (.alloc [.int .i64 0,.str ⟨#[]⟩,.int .i64 0,.int .i64 0,.int .i64 0,.aK 4,.aK 1]),Qs 7 6 25] [1,4,6,20,21,22] [1,6])
 (.ak [Qm 26 4,QL 27 7 6,Q 28 (.call 123 [.t 27] [] []),Q 29 (.bin .add (.t 26) (.t 28)),Qm 4 29] [1,4,20,21,22] [1])))
 (.ak [Q 30 (.bin .add (.t 22) (kI 1)),Qm 22 30] [1,4,20,21,22] [1])))
def dj.b:C:= .seq (.ak [Qv 1 0,Q 2 (.mv (.k (.str ⟨#[]⟩))),Qb 3 false] [1] [1])
 (.seq (.seq (.ak [QL 7 4 1,Q 8 (.call 150 [.t 7] [] []),Q 9 (.not (.t 8))] [1,9] [1])
 (.cond (.t 9) (.seq (.ak [Q 2 (.mv (.k (.str ⟨#[]⟩))),Qb 3 false] [2,3] [])
 (.ret)) (.skip)))
 (.seq (.ak [Qf 10 0 1,Ql 11 10,Qf 12 1 1,Ql 13 12,Qf 14 2 1,Ql 15 14,Q 16 (.len (.t 15)),Q 17 (.bM 1 3 [.int .i64 0] [(0,.t 11),(1,.t 13),(2,.t 16)]),
   Q 18 (.call 151 [.t 17] [] []),Qm 4 18] [1,4] [1])
 (.seq (.seq (.ak [Qf 19 2 1,Ql 20 19,Q 21 (.len (.t 20)),Qi 22 0] [1,4,20,21,22] [1])
 (.block 0 (.loop dj.l0)))
 (.seq (.gw [Qm 31 4,Qf 32 3 1,Ql 33 32,Q 34 (.len (.t 33)),Q 35 (.bM 1 1 [.int .i64 0] [(0,.t 34)]),Q 36 (.call 151 [.t 35] [] []),Q 37 (.bin .add (.t 31) (.t 36)),Qf 38 3 1,
   Ql 39 38,Q 40 (.call 151 [.t 39] [] []),Q 41 (.bin .add (.t 37) (.t 40)),Q 42 (.call 103 [.t 41] [] []),Qx 43 0 42,Qx 44 1 42,Qm 2 43,Qm 3 44] [[],[],[1],[1,2],[1,2,3],[1,2,3,4],lr 6,[],[7],[1,2,3,4,5,7,8],lr 10,lr 11,lr 12,lr 12,lr 14,lr 15] [2,3] [])
 (.ret)))))
def dj.m:Fn:={np:=1,body:=dj.b,res:=[.tmp 2,.tmp 3]}
def dj.k(M:Nat→Option Body):Prop:=M 61=some (.code dj.m)∧iY.k M∧fp.k M∧aJ.k M∧fW.k M
def gY.b:C:= .seq (.ak [Qv 2 0,Qv 3 1,Qb 4 false] [2,3] [2,3])
 (.seq (.ak [QL 10 4 2,Q 11 (.call 61 [.t 10] [] []),Qm 9 11,Qx 12 0 9,Qx 13 1 9,Qm 5 12,Qm 6 13] [3,5] [3])
 (.seq (.ak [QL 15 4 3,Q 16 (.call 61 [.t 15] [] []),Qm 14 16,Qx 17 0 14,Qx 18 1 14,Qm 7 17,Qm 8 18] [5,7] [])
 (.seq (.ak [Qm 19 5,Qm 20 7,Q 21 (.bin .eql (.t 19) (.t 20)),Qm 4 21] [4] [])
 (.ret))))
def gY.m:Fn:={np:=2,body:=gY.b,res:=[.tmp 4]}
def gY.k(M:Nat→Option Body):Prop:=M 63=some (.code gY.m)∧dj.k M
def fj.b:C:= .seq (.ak [Qv 1 0,Qb 2 false] [1] [1])
 (.seq (.seq (.ak [Qf 5 0 1,Ql 6 5] [1,6] [1])
 (.block 0 (.seq (.seq (.ak [Q 8 (.bin .eql (.t 6) (kI 1)),Qm 7 8] [1,6,7] [1])
 (.cond (.t 7) (.skip) (.ak [Q 9 (.bin .eql (.t 6) (kI 2)),Qm 7 9] [1,6,7] [1])))
 (.cond (.t 7) (.seq (.ak [Qf 10 4 1,Ql 11 10,Q 12 (.call 90 [.t 11] [] []),Qm 2 12] [2] [])
 (.ret)) (.seq (.ak [Q 14 (.bin .eql (.t 6) (kI 4)),Qm 13 14] [1,6,13] [1])
 (.cond (.t 13) (.seq (.ak [Qf 15 4 1,Ql 16 15,Q 17 (.j0 (.t 16)),Q 18 (.bin .leq (.t 17) (kI 60)),Qm 2 18] [2] [])
 (.ret)) (.seq (.ak [Q 20 (.bin .eql (.t 6) (kI 7)),Qm 19 20] [1,19] [1])
 (.cond (.t 19) (.seq (.ak [Qf 22 4 1,Ql 23 22,Q 24 (.call 75 [.t 23] [] []),Qm 21 24,Qx 25 0 21,Qx 26 1 21,Q 3 (.alloc [.int .i64 0,.int .i64 0,.aK 7,.aK 1]),Qs 4 3 25,Qm 4 26] [4] [])
 (.seq (.ak [Qm 27 4,Qm 2 27] [2] [])
 (.ret))) (.skip)))))))))
 (.seq (.ak [Qf 28 4 1,Ql 29 28,Q 30 (.bin .eql (.t 29) (.k (.str ⟨#[]⟩))),Qm 2 30] [2] [])
 (.ret)))
def fj.m:Fn:={np:=1,body:=fj.b,res:=[.tmp 2]}
def fj.k(M:Nat→Option Body):Prop:=M 146=some (.code fj.m)∧bl.k M∧dZ.k M
def aX.b:C:= .seq (.ak [Qv 1 0,Qb 2 false] [1] [1])
 (.seq (.seq (.ak [Qf 6 0 1,Ql 7 6,Q 8 (.call 98 [.t 7,kI 1,kI 7] [] []),Q 9 (.not (.t 8))] [1,9] [1])
 (.cond (.t 9) (.seq (.ak [Qb 2 false] [2] [])
 (.ret)) (.skip)))
 (.seq (.ak [Qf 10 0 1,Ql 11 10,Q 12 (.bin .eql (.t 11) (kI 7)),Qm 3 12] [1,3] [1])
 (.seq (.ak [Qf 13 0 1,Ql 14 13,Q 15 (.bin .eql (.t 14) (kI 4)),Qm 16 15,Qg 17 (.bC 0 (.t 1)) 16 false,Qg 18 (.load false 1 (.t 17)) 16 false,Qg 19 (.bin .eql (.t 18) (kI 5)) 16 false,
   Q 20 (.pick (.t 16) (kB true) (.t 19)),Qm 21 20,Qg 22 (.bC 0 (.t 1)) 21 false,Qg 23 (.load false 1 (.t 22)) 21 false,Qg 24 (.bin .eql (.t 23) (kI 6)) 21 false,
   Q 25 (.pick (.t 21) (kB true) (.t 24)),Qm 4 25] [1,3,4] [1])
 (.seq (.ak [Qf 26 0 1,Ql 27 26,Q 28 (.bin .eql (.t 27) (kI 4)),Qm 29 28,Qg 30 (.bC 0 (.t 1)) 29 false,Qg 31 (.load false 1 (.t 30)) 29 false,Qg 32 (.bin .eql (.t 31) (kI 5)) 29 false,
   Q 33 (.pick (.t 29) (kB true) (.t 32)),Qm 5 33] [1,3,4,5] [1])
 (.seq (.seq (.ak [Qm 34 3,Qm 35 34,Qg 36 (.bC 1 (.t 1)) 35 true,Qg 37 (.load false 1 (.t 36)) 35 true,Qg 38 (.bin .neq (.t 37) (kI 0)) 35 true,Q 39 (.pick (.t 35) (.t 38) (kB false)),
   Qm 40 39,Qg 41 (.mv (.t 3)) 40 false,Qg 42 (.not (.t 41)) 40 false,Qg 43 (.mv (.t 42)) 40 false,Qg 44 (.bC 1 (.t 1)) 43 true,Qg 45 (.load false 1 (.t 44)) 43 true,
   Qg 46 (.call 98 [.t 45,kI 1,kI 9999] [] []) 43 true,Qg 47 (.not (.t 46)) 43 true,Qg 48 (.pick (.t 43) (.t 47) (kB false)) 40 false,Q 49 (.pick (.t 40) (kB true) (.t 48)),
   Qm 50 49,Qg 51 (.mv (.t 4)) 50 false,Qg 52 (.mv (.t 51)) 50 false,Qg 53 (.bC 2 (.t 1)) 52 true,Qg 54 (.load false 1 (.t 53)) 52 true,
   Qg 55 (.call 98 [.t 54,kI 1,kI 9999] [] []) 52 true,Qg 56 (.not (.t 55)) 52 true,Qg 57 (.pick (.t 52) (.t 56) (kB false)) 50 false,Q 58 (.pick (.t 50) (kB true) (.t 57)),
   Qm 59 58,Qg 60 (.mv (.t 4)) 59 false,Qg 61 (.not (.t 60)) 59 false,Qg 62 (.mv (.t 61)) 59 false,Qg 63 (.bC 2 (.t 1)) 62 true,Qg 64 (.load false 1 (.t 63)) 62 true,
   Qg 65 (.bin .neq (.t 64) (kI 0)) 62 true,Qg 66 (.pick (.t 62) (.t 65) (kB false)) 59 false,Q 67 (.pick (.t 59) (kB true) (.t 66))] [1,5,67] [1])
 (.cond (.t 67) (.seq (.ak [Qb 2 false] [2] [])
 (.ret)) (.skip)))
 (.seq (.seq (.ak [Qm 68 5,Qm 69 68,Qg 70 (.bC 3 (.t 1)) 69 true,Qg 71 (.load false 1 (.t 70)) 69 true,Qg 72 (.call 98 [.t 71,kI 0,kI 7] [] []) 69 true,Qg 73 (.not (.t 72)) 69 true,
   Q 74 (.pick (.t 69) (.t 73) (kB false)),Qm 75 74,Qg 76 (.mv (.t 5)) 75 false,Qg 77 (.not (.t 76)) 75 false,Qg 78 (.mv (.t 77)) 75 false,Qg 79 (.bC 3 (.t 1)) 78 true,
   Qg 80 (.load false 1 (.t 79)) 78 true,Qg 81 (.bin .neq (.t 80) (kI 0)) 78 true,Qg 82 (.pick (.t 78) (.t 81) (kB false)) 75 false,Q 83 (.pick (.t 75) (kB true) (.t 82))] [1,83] [1])
 (.cond (.t 83) (.seq (.ak [Qb 2 false] [2] [])
 (.ret)) (.skip)))
 (.seq (.ak [QL 84 5 1,Q 85 (.call 146 [.t 84] [] []),Qm 2 85] [2] [])
 (.ret))))))))
def aX.m:Fn:={np:=1,body:=aX.b,res:=[.tmp 2]}
def aX.k(M:Nat→Option Body):Prop:=M 58=some (.code aX.m)∧bR.k M∧fj.k M
def aO.b:C:= .seq (.ak [Qv 1 0,Qb 2 false] [1] [1])
 (.seq (.ak [Qf 7 0 1,Ql 8 7,Qf 9 1 1,Ql 10 9,Q 11 (.build [.int .i64 0,.int .i64 0,.int .i64 0,.int .i64 0,.str ⟨#[]⟩] [(0,1,.t 8),(1,1,.t 10)]),
   Q 3 (.alloc [.int .i64 0,.int .i64 0,.int .i64 0,.int .i64 0,.str ⟨#[]⟩]),Qs 5 3 11] [1,3] [1,3])
 (.seq (.ak [Qf 12 1 1,Ql 13 12,Q 14 (.call 147 [.t 13] [] []),Qm 4 14] [1,3,4] [1,3])
 (.seq (.seq (.ak [Qf 15 0 1,Ql 16 15] [1,3,4,16] [1,3])
 (.block 0 (.seq (.seq (.ak [Q 18 (.bin .eql (.t 16) (kI 1)),Qm 17 18] [1,3,4,16,17] [1,3])
 (.cond (.t 17) (.skip) (.ak [Q 19 (.bin .eql (.t 16) (kI 2)),Qm 17 19] [1,3,4,16,17] [1,3])))
 (.cond (.t 17) (.seq (.ak [Qf 20 4 1,Ql 21 20,Qf 22 4 3,Qs 1 22 21] [1,3,4] [1,3])
 (.seq (.ak [Qm 23 4,Qm 24 23,Qg 25 (.load true 5 (.t 1)) 24 true,Qg 26 (.load true 5 (.t 3)) 24 true,Qg 27 (.eqs false [.int,.int,.int,.int,.str] (.t 25) (.t 26)) 24 true,
   Q 28 (.pick (.t 24) (.t 27) (kB false)),Qm 29 28,Qg 30 (.bC 4 (.t 1)) 29 true,Qg 31 (.load false 1 (.t 30)) 29 true,Qg 32 (.call 89 [.t 31] [] []) 29 true,
   Q 33 (.pick (.t 29) (.t 32) (kB false)),Qm 2 33] [2] [])
 (.ret))) (.seq (.ak [Q 35 (.bin .eql (.t 16) (kI 3)),Qm 34 35] [1,3,4,16,34] [1,3])
 (.cond (.t 34) (.seq (.ak [Qm 36 4,Qm 37 36,Qg 38 (.load true 5 (.t 1)) 37 true,Qg 39 (.load true 5 (.t 3)) 37 true,Qg 40 (.eqs false [.int,.int,.int,.int,.str] (.t 38) (.t 39)) 37 true,
   Q 41 (.pick (.t 37) (.t 40) (kB false)),Qm 2 41] [2] [])
 (.ret)) (.seq (.ak [Q 43 (.bin .eql (.t 16) (kI 4)),Qm 42 43] [1,3,4,16,42] [1,3])
 (.cond (.t 42) (.seq (.ak [Qm 44 4,Qm 45 44,Qg 46 (.bC 2 (.t 1)) 45 true,Qg 47 (.load false 1 (.t 46)) 45 true,Qg 48 (.call 147 [.t 47] [] []) 45 true,Q 49 (.pick (.t 45) (.t 48) (kB false)),
   Qm 50 49,Qg 51 (.bC 3 (.t 1)) 50 true,Qg 52 (.load false 1 (.t 51)) 50 true,Qg 53 (.call 148 [.t 52] [] []) 50 true,Q 54 (.pick (.t 50) (.t 53) (kB false)),Qm 55 54,
   Qg 56 (.bC 4 (.t 1)) 55 true,Qg 57 (.load false 1 (.t 56)) 55 true,Qg 58 (.j0 (.t 57)) 55 true,Qg 59 (.bin .leq (.t 58) (kI 60)) 55 true,
   Q 60 (.pick (.t 55) (.t 59) (kB false)),Qm 2 60] [2] [])
 (.ret)) (.seq (.ak [Q 62 (.bin .eql (.t 16) (kI 5)),Qm 61 62] [1,3,4,16,61] [1,3])
 (.cond (.t 61) (.seq (.ak [Qf 63 2 1,Ql 64 63,Qf 65 2 3,Qs 1 65 64] [1,3,4] [1,3])
 (.seq (.ak [Qf 66 3 1,Ql 67 66,Qf 68 3 3,Qs 1 68 67] [1,3,4] [1,3])
 (.seq (.ak [Qm 69 4,Qm 70 69,Qg 71 (.load true 5 (.t 1)) 70 true,Qg 72 (.load true 5 (.t 3)) 70 true,Qg 73 (.eqs false [.int,.int,.int,.int,.str] (.t 71) (.t 72)) 70 true,
   Q 74 (.pick (.t 70) (.t 73) (kB false)),Qm 75 74,Qg 76 (.bC 2 (.t 1)) 75 true,Qg 77 (.load false 1 (.t 76)) 75 true,Qg 78 (.call 147 [.t 77] [] []) 75 true,
   Q 79 (.pick (.t 75) (.t 78) (kB false)),Qm 80 79,Qg 81 (.bC 3 (.t 1)) 80 true,Qg 82 (.load false 1 (.t 81)) 80 true,Qg 83 (.call 148 [.t 82] [] []) 80 true,
   Q 84 (.pick (.t 80) (.t 83) (kB false)),Qm 2 84] [2] [])
 (.ret)))) (.seq (.ak [Q 86 (.bin .eql (.t 16) (kI 6)),Qm 85 86] [1,3,4,16,85] [1,3])
 (.cond (.t 85) (.seq (.ak [Qf 87 2 1,Ql 88 87,Qf 89 2 3,Qs 1 89 88] [1,3,4] [1,3])
 (.seq (.ak [Qm 90 4,Qm 91 90,Qg 92 (.load true 5 (.t 1)) 91 true,Qg 93 (.load true 5 (.t 3)) 91 true,Qg 94 (.eqs false [.int,.int,.int,.int,.str] (.t 92) (.t 93)) 91 true,
   Q 95 (.pick (.t 91) (.t 94) (kB false)),Qm 96 95,Qg 97 (.bC 2 (.t 1)) 96 true,Qg 98 (.load false 1 (.t 97)) 96 true,Qg 99 (.call 147 [.t 98] [] []) 96 true,
   Q 100 (.pick (.t 96) (.t 99) (kB false)),Qm 2 100] [2] [])
 (.ret))) (.seq (.ak [Q 102 (.bin .eql (.t 16) (kI 7)),Qm 101 102] [1,101] [1])
 (.cond (.t 101) (.seq (.ak [Qf 104 4 1,Ql 105 104,Q 106 (.call 76 [.t 105] [] []),Qm 103 106,Qx 107 0 103,Qx 108 1 103,Q 5 (.alloc [.int .i64 0,.int .i64 0,.aK 7,.aK 1]),Qs 4 5 107,Qm 6 108] [1,6] [1])
 (.seq (.ak [Qm 109 6,Qm 110 109,Qg 111 (.load true 5 (.t 1)) 110 true,Qg 112 (.bC 4 (.t 1)) 110 true,Qg 113 (.load false 1 (.t 112)) 110 true,
   Qg 114 (.build [.int .i64 0,.int .i64 0,.int .i64 0,.int .i64 0,.str ⟨#[]⟩] [(0,1,kI 7),(4,1,.t 113)]) 110 true,
   Qg 115 (.eqs false [.int,.int,.int,.int,.str] (.t 111) (.t 114)) 110 true,Q 116 (.pick (.t 110) (.t 115) (kB false)),Qm 2 116] [2] [])
 (.ret))) (.skip)))))))))))))))
 (.seq (.ak [Qb 2 false] [2] [])
 (.ret)))))
def aO.m:Fn:={np:=1,body:=aO.b,res:=[.tmp 2]}
def aO.k(M:Nat→Option Body):Prop:=M 59=some (.code aO.m)∧bI.k M∧ev.k M∧gD.k M∧fX.k M
def ff.b:C:= .seq (.ak [Q 2 (.alloc [.int .i64 0,.int .i64 0,.int .i64 0,.int .i64 0,.str ⟨#[]⟩]),Qb 3 false] [0,2] [2])
 (.seq (.seq (.ak [Qm 6 0,Q 7 (.bin .eql (.t 6) (.k (.str ⟨#[]⟩)))] [0,2,7] [2])
 (.cond (.t 7) (.seq (.ak [Q 8 (.build [.int .i64 0,.int .i64 0,.int .i64 0,.int .i64 0,.str ⟨#[]⟩] []),Qs 5 2 8,Qb 3 false] [2,3] [2])
 (.ret)) (.skip)))
 (.seq (.ak [Qm 9 0,Q 10 (.build [.str ⟨#[]⟩,.int .i64 0,.bool false] [(0,1,.t 9),(1,1,kI 1)]),Qv 11 10,Qm 4 11] [0,2,4] [2,11])
 (.seq (.gw [Qm 12 0,Q 13 (.idx (.t 12) (kI 0)),Q 14 (.qY .i64 (.t 13)),Qm 15 4,Q 16 (.call 152 [.t 15] [0] []),
   Q 17 (.build [.int .i64 0,.int .i64 0,.int .i64 0,.int .i64 0,.str ⟨#[]⟩] [(0,1,.t 14),(1,1,.t 16)]),
   Q 5 (.alloc [.int .i64 0,.int .i64 0,.int .i64 0,.int .i64 0,.str ⟨#[]⟩]),Qs 5 5 17] [[],[0],[0,1],[],[3],lr 5,[],lr 7] [0,2,4,5] [2,5,11])
 (.seq (.ak [Qm 18 4,Q 19 (.call 152 [.t 18] [0] []),Qf 20 2 5,Qs 1 20 19] [0,2,4,5] [2,5,11])
 (.seq (.ak [Qm 21 4,Q 22 (.call 152 [.t 21] [0] []),Qf 23 3 5,Qs 1 23 22] [0,2,4,5] [2,5,11])
 (.seq (.ak [Qm 24 4,Q 25 (.call 153 [.t 24] [0] []),Qf 26 4 5,Qs 1 26 25] [0,2,4,5] [2,5,11])
 (.seq (.seq (.ak [Qm 27 4,Q 28 (.j5 (.t 27)),Qf 29 2 28,Ql 30 29,Qm 31 30,Qg 32 (.mv (.t 4)) 31 false,Qg 33 (.j5 (.t 32)) 31 false,Qg 34 (.bC 1 (.t 33)) 31 false,
   Qg 35 (.load false 1 (.t 34)) 31 false,Qg 36 (.mv (.t 0)) 31 false,Qg 37 (.j0 (.t 36)) 31 false,Qg 38 (.bin .neq (.t 35) (.t 37)) 31 false,
   Q 39 (.pick (.t 31) (kB true) (.t 38)),Qm 40 39,Qg 41 (.load true 5 (.t 5)) 40 false,Qg 42 (.call 59 [.t 41] [] []) 40 false,Qg 43 (.not (.t 42)) 40 false,
   Q 44 (.pick (.t 40) (kB true) (.t 43))] [2,5,44] [2,5])
 (.cond (.t 44) (.seq (.ak [Q 45 (.build [.int .i64 0,.int .i64 0,.int .i64 0,.int .i64 0,.str ⟨#[]⟩] []),Qs 5 2 45,Qb 3 false] [2,3] [2])
 (.ret)) (.skip)))
 (.seq (.ak [QL 46 5 5,Qs 5 2 46,Qb 3 true] [2,3] [2])
 (.ret)))))))))
def ff.m:Fn:={np:=1,body:=ff.b,res:=[.cell 2 true 5,.tmp 3]}
def ff.k(M:Nat→Option Body):Prop:=M 65=some (.code ff.m)∧aO.k M∧bY.k M∧eN.k M
def gN.b:C:= .seq (.ak [Qv 1 0,Q 2 (.mv (.k (.str ⟨#[]⟩))),Qb 3 false] [1] [1])
 (.seq (.seq (.ak [QL 4 5 1,Q 5 (.call 58 [.t 4] [] []),Q 6 (.not (.t 5))] [1,6] [1])
 (.cond (.t 6) (.seq (.ak [Q 2 (.mv (.k (.str ⟨#[]⟩))),Qb 3 false] [2,3] [])
 (.ret)) (.skip)))
 (.seq (.gw [Qf 7 0 1,Ql 8 7,Q 9 (.qY .u8 (.t 8)),Q 10 (.bM 1 1 [.int .u8 0] [(0,.t 9)]),Q 11 (.Fm (.t 10)),Qf 12 1 1,Ql 13 12,Q 14 (.call 99 [.t 13] [] []),
   Q 15 (.bin .add (.t 11) (.t 14)),Qf 16 2 1,Ql 17 16,Q 18 (.call 99 [.t 17] [] []),Q 19 (.bin .add (.t 15) (.t 18)),Qf 20 3 1,Ql 21 20,Q 22 (.call 99 [.t 21] [] []),
   Q 23 (.bin .add (.t 19) (.t 22)),Qf 24 4 1,Ql 25 24,Q 26 (.j0 (.t 25)),Q 27 (.call 99 [.t 26] [] []),Q 28 (.bin .add (.t 23) (.t 27)),Qf 29 4 1,Ql 30 29,
   Q 31 (.bin .add (.t 28) (.t 30)),Qm 2 31,Qb 3 true] [[],[0],[0,1],[0,1,2],lr 4,[],[5],[5,6],lr 8,[],[9],[5,6,7,9,10],lr 12,[],[13],[5,6,7,9,10,11,13,14],lr 16,[],[17],[17,18],[5,6,7,9,10,11,13,14,15,17,18,19],lr 21,[],[22],lr 24,lr 25,lr 26] [2,3] [])
 (.ret)))
def gN.m:Fn:={np:=1,body:=gN.b,res:=[.tmp 2,.tmp 3]}
def gN.k(M:Nat→Option Body):Prop:=M 67=some (.code gN.m)∧aX.k M∧bH.k M
def cY.b:C:= .seq (.ak [Qv 2 0,Qv 3 1,Q 4 (.alloc [.int .i64 0,.int .i64 0,.aK 7,.aK 1]),Qb 5 false] [2,3,4] [2,3,4])
 (.seq (.seq (.ak [QL 8 5 3,Q 9 (.call 59 [.t 8] [] []),Q 10 (.not (.t 9))] [2,3,4,10] [2,3,4])
 (.cond (.t 10) (.seq (.ak [QL 11 4 2,Q 12 (.call 220 [.t 11] [] []),Qs 4 4 12,Qb 5 false] [4,5] [4])
 (.ret)) (.skip)))
 (.seq (.seq (.ak [Qf 13 0 3,Ql 14 13] [2,3,4,14] [2,3,4])
 (.block 0 (.seq (.ak [Q 16 (.bin .eql (.t 14) (kI 1)),Qm 15 16] [2,3,4,14,15] [2,3,4])
 (.cond (.t 15) (.seq (.ak [QL 17 4 2,Qf 18 1 3,Ql 19 18,Qf 20 4 3,Ql 21 20,Q 22 (.call 409 [.t 17,.t 19,.t 21] [] []),Qx 23 0 22,Qx 24 1 22,Qs 4 4 23,Qm 5 24] [4,5] [4])
 (.ret)) (.seq (.ak [Q 26 (.bin .eql (.t 14) (kI 2)),Qm 25 26] [2,3,4,14,25] [2,3,4])
 (.cond (.t 25) (.seq (.ak [QL 27 4 2,Qf 28 1 3,Ql 29 28,Qf 30 4 3,Ql 31 30,Q 32 (.call 411 [.t 27,.t 29,.t 31] [] []),Qx 33 0 32,Qx 34 1 32,Qs 4 4 33,Qm 5 34] [4,5] [4])
 (.ret)) (.seq (.ak [Q 36 (.bin .eql (.t 14) (kI 3)),Qm 35 36] [2,3,4,14,35] [2,3,4])
 (.cond (.t 35) (.seq (.ak [QL 37 4 2,Qf 38 1 3,Ql 39 38,Q 40 (.call 412 [.t 37,.t 39] [] []),Qx 41 0 40,Qx 42 1 40,Qs 4 4 41,Qm 5 42] [4,5] [4])
 (.ret)) (.seq (.ak [Q 44 (.bin .eql (.t 14) (kI 4)),Qm 43 44] [2,3,4,14,43] [2,3,4])
 (.cond (.t 43) (.seq (.ak [QL 45 4 2,Qf 46 1 3,Ql 47 46,Qf 48 2 3,Ql 49 48,Qf 50 3 3,Ql 51 50,Qf 52 4 3,Ql 53 52,Q 54 (.call 410 [.t 45,.t 47,.t 49,.t 51,.t 53] [] []),Qx 55 0 54,Qx 56 1 54,
   Qs 4 4 55,Qm 5 56] [4,5] [4])
 (.ret)) (.seq (.ak [Q 58 (.bin .eql (.t 14) (kI 5)),Qm 57 58] [2,3,4,14,57] [2,3,4])
 (.cond (.t 57) (.seq (.ak [QL 59 4 2,Qf 60 1 3,Ql 61 60,Qf 62 2 3,Ql 63 62,Qf 64 3 3,Ql 65 64,Q 66 (.call 428 [.t 59,.t 61,.t 63,.t 65] [] []),Qx 67 0 66,Qx 68 1 66,Qs 4 4 67,Qm 5 68] [4,5] [4])
 (.ret)) (.seq (.ak [Q 70 (.bin .eql (.t 14) (kI 6)),Qm 69 70] [2,3,4,69] [2,3,4])
 (.cond (.t 69) (.seq (.ak [QL 71 4 2,Qf 72 1 3,Ql 73 72,Qf 74 2 3,Ql 75 74,Q 76 (.call 429 [.t 71,.t 73,.t 75] [] []),Qx 77 0 76,Qx 78 1 76,Qs 4 4 77,Qm 5 78] [4,5] [4])
 (.ret)) (.skip)))))))))))))))
 (.seq (.ak [Qf 80 4 3,Ql 81 80,Q 82 (.call 76 [.t 81] [] []),Qm 79 82,Qx 83 0 79,Qx 84 1 79,Q 6 (.alloc [.int .i64 0,.int .i64 0,.aK 7,.aK 1]),Qs 4 6 83,Qm 7 84] [2,4,6] [2,4,6])
 (.seq (.seq (.ak [Qf 85 0 6,Ql 86 85,Qf 87 0 2,Ql 88 87,Q 89 (.bin .eql (.t 86) (.t 88)),Qm 90 89,Qg 91 (.load true 4 (.t 2)) 90 false,Qg 92 (.load true 4 (.t 6)) 90 false,
   Qg 93 (.call 433 [.t 91,.t 92] [] []) 90 false,Qg 94 (.not (.t 93)) 90 false,Q 95 (.pick (.t 90) (kB true) (.t 94))] [2,4,6,95] [2,4,6])
 (.cond (.t 95) (.seq (.ak [QL 96 4 2,Q 97 (.call 220 [.t 96] [] []),Qs 4 4 97,Qb 5 false] [4,5] [4])
 (.ret)) (.skip)))
 (.seq (.ak [QL 98 4 2,QL 99 4 6,Q 100 (.call 447 [.t 98,.t 99] [] []),Qs 4 4 100,Qb 5 true] [4,5] [4])
 (.ret))))))
def cY.m:Fn:={np:=2,body:=cY.b,res:=[.cell 4 true 4,.tmp 5]}
def cY.k(M:Nat→Option Body):Prop:=M 469=some (.code cY.m)∧aO.k M∧bI.k M∧b6.k M∧dh.k M∧fq.k M∧ei.k M∧fZ.k M∧fg.k M∧fh.k M∧fw.k M∧bG.k M
def cF.b:C:= .seq (.ak [Qv 2 0,Qv 3 1,Q 4 (.alloc [.int .i64 0,.int .i64 0,.aK 7,.aK 1]),Qb 5 false] [2,3,4] [2,3,4])
 (.seq (.seq (.ak [QL 8 5 3,Q 9 (.call 58 [.t 8] [] []),Q 10 (.not (.t 9))] [2,3,4,10] [2,3,4])
 (.cond (.t 10) (.seq (.ak [QL 11 4 2,Q 12 (.call 219 [.t 11] [] []),Qs 4 4 12,Qb 5 false] [4,5] [4])
 (.ret)) (.skip)))
 (.seq (.seq (.ak [Qf 13 0 3,Ql 14 13] [2,3,4,14] [2,3,4])
 (.block 0 (.seq (.ak [Q 16 (.bin .eql (.t 14) (kI 1)),Qm 15 16] [2,3,4,14,15] [2,3,4])
 (.cond (.t 15) (.seq (.ak [QL 17 4 2,Qf 18 1 3,Ql 19 18,Qf 20 4 3,Ql 21 20,Q 22 (.call 278 [.t 17,.t 19,.t 21] [] []),Qx 23 0 22,Qx 24 1 22,Qs 4 4 23,Qm 5 24] [4,5] [4])
 (.ret)) (.seq (.ak [Q 26 (.bin .eql (.t 14) (kI 2)),Qm 25 26] [2,3,4,14,25] [2,3,4])
 (.cond (.t 25) (.seq (.ak [QL 27 4 2,Qf 28 1 3,Ql 29 28,Qf 30 4 3,Ql 31 30,Q 32 (.call 282 [.t 27,.t 29,.t 31] [] []),Qx 33 0 32,Qx 34 1 32,Qs 4 4 33,Qm 5 34] [4,5] [4])
 (.ret)) (.seq (.ak [Q 36 (.bin .eql (.t 14) (kI 3)),Qm 35 36] [2,3,4,14,35] [2,3,4])
 (.cond (.t 35) (.seq (.ak [QL 37 4 2,Qf 38 1 3,Ql 39 38,Q 40 (.call 283 [.t 37,.t 39] [] []),Qx 41 0 40,Qx 42 1 40,Qs 4 4 41,Qm 5 42] [4,5] [4])
 (.ret)) (.seq (.ak [Q 44 (.bin .eql (.t 14) (kI 4)),Qm 43 44] [2,3,4,14,43] [2,3,4])
 (.cond (.t 43) (.seq (.ak [QL 45 4 2,Qf 46 1 3,Ql 47 46,Qf 48 2 3,Ql 49 48,Qf 50 3 3,Ql 51 50,Qf 52 4 3,Ql 53 52,Q 54 (.call 279 [.t 45,.t 47,.t 49,.t 51,.t 53] [] []),Qx 55 0 54,Qx 56 1 54,
   Qs 4 4 55,Qm 5 56] [4,5] [4])
 (.ret)) (.seq (.ak [Q 58 (.bin .eql (.t 14) (kI 5)),Qm 57 58] [2,3,4,14,57] [2,3,4])
 (.cond (.t 57) (.seq (.ak [QL 59 4 2,Qf 60 1 3,Ql 61 60,Qf 62 2 3,Ql 63 62,Qf 64 3 3,Ql 65 64,Q 66 (.call 280 [.t 59,.t 61,.t 63,.t 65] [] []),Qx 67 0 66,Qx 68 1 66,Qs 4 4 67,Qm 5 68] [4,5] [4])
 (.ret)) (.seq (.ak [Q 70 (.bin .eql (.t 14) (kI 6)),Qm 69 70] [2,3,4,69] [2,3,4])
 (.cond (.t 69) (.seq (.ak [QL 71 4 2,Qf 72 1 3,Ql 73 72,Qf 74 2 3,Ql 75 74,Q 76 (.call 281 [.t 71,.t 73,.t 75] [] []),Qx 77 0 76,Qx 78 1 76,Qs 4 4 77,Qm 5 78] [4,5] [4])
 (.ret)) (.skip)))))))))))))))
 (.seq (.ak [Qf 80 4 3,Ql 81 80,Q 82 (.call 75 [.t 81] [] []),Qm 79 82,Qx 83 0 79,Qx 84 1 79,Q 6 (.alloc [.int .i64 0,.int .i64 0,.aK 7,.aK 1]),Qs 4 6 83,Qm 7 84] [2,4,6] [2,4,6])
 (.seq (.seq (.ak [Qf 85 0 6,Ql 86 85,Qf 87 0 2,Ql 88 87,Q 89 (.bin .eql (.t 86) (.t 88)),Qm 90 89,Qg 91 (.load true 4 (.t 2)) 90 false,Qg 92 (.load true 4 (.t 6)) 90 false,
   Qg 93 (.call 432 [.t 91,.t 92] [] []) 90 false,Qg 94 (.not (.t 93)) 90 false,Q 95 (.pick (.t 90) (kB true) (.t 94))] [2,4,6,95] [2,4,6])
 (.cond (.t 95) (.seq (.ak [QL 96 4 2,Q 97 (.call 219 [.t 96] [] []),Qs 4 4 97,Qb 5 false] [4,5] [4])
 (.ret)) (.skip)))
 (.seq (.ak [QL 98 4 2,QL 99 4 6,Q 100 (.call 446 [.t 98,.t 99] [] []),Qs 4 4 100,Qb 5 true] [4,5] [4])
 (.ret))))))
def cF.m:Fn:={np:=2,body:=cF.b,res:=[.cell 4 true 4,.tmp 5]}
def cF.k(M:Nat→Option Body):Prop:=M 468=some (.code cF.m)∧aX.k M∧bl.k M∧cu.k M∧b4.k M∧dI.k M∧dA.k M∧dB.k M∧cL.k M∧dK.k M∧fu.k M∧bQ.k M
def bB.tl:C:= .seq (.ak [Qm 42 0,Q 43 (.call 125 [.t 42,kI 12] [0] []),Qm 10 43] [0,2,4,6,7,8,10] [0,4,6])
 (.seq (.block 0 (.seq (.ak [Qm 45 7,Q 46 (.bin .eql (.t 45) (kI 0)),Qm 47 46,Qg 48 (.mv (.t 10)) 47 false,Qg 49 (.bin .eql (.t 48) (kI 0)) 47 false,Q 50 (.pick (.t 47) (kB true) (.t 49)),Qm 44 50] [0,2,4,6,7,8,10,44] [0,4,6])
 (.cond (.t 44) (.seq (.ak [Qm 51 2,Qm 52 0,Q 53 (.vq 1 3 [.str ⟨#[]⟩] [(0,.k (.str ⟨#[105,110,98,111,120]⟩)),(1,.k (.str ⟨#[119,111,114,107]⟩)),(2,.k (.str ⟨#[111,108,100]⟩))]),
   Q 54 (.call 185 [.t 52,.t 53] [0] []),Q 55 (.build [.int .i64 0,.int .i64 0,.int .i64 0,.int .i64 0,.str ⟨#[]⟩] [(0,1,kI 1),(1,1,.t 51),(4,1,.t 54)]),Qs 5 6 55] [6] [0,6])
 (.ret)) (.seq (.ak [Qm 57 10,Q 58 (.bin .lss (.t 57) (kI 5)),Qm 59 58,Qg 60 (.mv (.t 8)) 59 false,Qg 61 (.bin .eql (.t 60) (kI 0)) 59 false,Q 62 (.pick (.t 59) (kB true) (.t 61)),Qm 56 62] [0,2,4,6,7,8,10,56] [0,4,6])
 (.cond (.t 56) (.seq (.ak [Qm 63 7,Qm 64 2,Qm 65 0,Q 66 (.call 125 [.t 65,kI 8] [0] []),Qm 67 0,Q 68 (.call 174 [.t 67] [0] []),
   Q 69 (.build [.int .i64 0,.int .i64 0,.int .i64 0,.int .i64 0,.str ⟨#[]⟩] [(0,1,kI 4),(1,1,.t 63),(2,1,.t 64),(3,1,.t 66),(4,1,.t 68)]),Qs 5 6 69] [6] [0,6])
 (.ret)) (.seq (.ak [Qm 71 10,Q 72 (.bin .lss (.t 71) (kI 8)),Qm 70 72] [0,4,6,7,8,10,70] [0,4,6])
 (.cond (.t 70) (.seq (.ak [Qm 73 7,Qm 74 8,Qm 75 0,Q 76 (.call 125 [.t 75,kI 8] [0] []),
   Q 77 (.build [.int .i64 0,.int .i64 0,.int .i64 0,.int .i64 0,.str ⟨#[]⟩] [(0,1,kI 5),(1,1,.t 73),(2,1,.t 74),(3,1,.t 76)]),Qs 5 6 77] [6] [0,6])
 (.ret)) (.seq (.ak [Qm 79 10,Q 80 (.bin .eql (.t 79) (kI 8)),Qm 78 80] [0,4,6,7,8,10,78] [0,4,6])
 (.cond (.t 78) (.seq (.ak [Qm 81 7,Qm 82 8,Q 83 (.build [.int .i64 0,.int .i64 0,.int .i64 0,.int .i64 0,.str ⟨#[]⟩] [(0,1,kI 6),(1,1,.t 81),(2,1,.t 82)]),Qs 5 6 83] [6] [0,6])
 (.ret)) (.seq (.ak [Qm 85 10,Q 86 (.bin .eql (.t 85) (kI 9)),Qm 84 86] [0,4,6,7,10,84] [0,4,6])
 (.cond (.t 84) (.seq (.ak [Qm 87 7,Qm 88 0,Q 89 (.vq 1 3 [.str ⟨#[]⟩] [(0,.k (.str ⟨#[110,101,119]⟩)),(1,.k (.str ⟨#[105,110,98,111,120]⟩)),(2,.k (.str ⟨#[111,116,104,101,114]⟩))]),
   Q 90 (.call 185 [.t 88,.t 89] [0] []),Q 91 (.build [.int .i64 0,.int .i64 0,.int .i64 0,.int .i64 0,.str ⟨#[]⟩] [(0,1,kI 2),(1,1,.t 87),(4,1,.t 90)]),Qs 5 6 91] [6] [0,6])
 (.ret)) (.seq (.ak [Qm 93 10,Q 94 (.bin .eql (.t 93) (kI 10)),Qm 92 94] [0,4,6,7,92] [0,4,6])
 (.cond (.t 92) (.seq (.ak [Qm 95 7,Q 96 (.build [.int .i64 0,.int .i64 0,.int .i64 0,.int .i64 0,.str ⟨#[]⟩] [(0,1,kI 3),(1,1,.t 95)]),Qs 5 6 96] [6] [0,6])
 (.ret)) (.skip))))))))))))))
 (.seq (.ak [Qm 98 0,Qf 99 0 4,Ql 100 99,Q 101 (.bin .sub (kI 3) (.t 100)),Q 102 (.call 113 [.t 101] [] []),Q 103 (.call 244 [.t 98,.t 102,kI 5,kI 700] [0] []),
   Q 104 (.call 60 [.t 103] [] []),Qm 97 104,Qx 105 0 97,Qx 106 1 97,Qm 11 105,Qm 12 106] [6,11] [0,6])
 (.seq (.ak [Qm 107 11,Q 108 (.build [.int .i64 0,.int .i64 0,.int .i64 0,.int .i64 0,.str ⟨#[]⟩] [(0,1,kI 7),(4,1,.t 107)]),Qs 5 6 108] [6] [0,6])
 (.ret))))
def bB.b:C:= .seq (.ak [Qv 4 1,Q 6 (.alloc [.int .i64 0,.int .i64 0,.int .i64 0,.int .i64 0,.str ⟨#[]⟩])] [0,2,4,6] [0,4,6])
 (.seq (.ak [Qi 7 0] [0,2,4,6,7] [0,4,6])
 (.seq (.ak [Qi 8 0] [0,2,4,6,7,8] [0,4,6])
 (.seq (.seq (.ak [Qf 13 2 4,Ql 14 13,Q 15 (.len (.t 14)),Q 16 (.bin .gtr (.t 15) (kI 0))] [0,2,4,6,7,8,16] [0,4,6])
 (.cond (.t 16) (.seq (.gw [Qf 17 2 4,Ql 18 17,Qm 19 0,Qf 20 2 4,Ql 21 20,Q 22 (.len (.t 21)),Q 23 (.call 125 [.t 19,.t 22] [0] []),Qa 24 7 18 23,QL 25 7 24,
   Q 9 (.alloc [.int .i64 0,.str ⟨#[]⟩,.int .i64 0,.int .i64 0,.int .i64 0,.aK 4,.aK 1]),Qs 7 9 25] [[],[0],[],[],[3],[3,4],[2,3,4,5],lr 7,lr 8,[],lr 10] [0,2,4,6,8,9] [0,4,6,9])
 (.seq (.ak [Qf 26 0 9,Ql 27 26,Qm 7 27] [0,2,4,6,7,8,9] [0,4,6,9])
 (.seq (.ak [Qf 28 5 9,Ql 29 28,Q 30 (.len (.t 29)),Q 31 (.bin .gtr (.t 30) (kI 0))] [0,2,4,6,7,8,9,31] [0,4,6,9])
 (.cond (.t 31) (.gw [Qf 32 5 9,Ql 33 32,Qm 34 0,Qf 35 5 9,Ql 36 35,Q 37 (.len (.t 36)),Q 38 (.call 125 [.t 34,.t 37] [0] []),Qa 39 4 33 38,Qf 40 0 39,Ql 41 40,Qm 8 41] [[],[0],[],[],[3],[3,4],[2,3,4,5],lr 7,lr 8,lr 9,lr 10] [0,2,4,6,7,8] [0,4,6]) (.skip))))) (.skip)))
 bB.tl)))
def bB.m:Fn:={np:=3,body:=bB.b,res:=[.cell 6 true 5]}
def bB.k(M:Nat→Option Body):Prop:=M 519=some (.code bB.m)∧ch.k M∧fI.k M∧bu.k M∧gF.k M∧eG.k M∧bc.k M
end Mx
