/-
  What more of the functions compute, each by a small evaluation; no condition beyond what each says.
-/
import Derived.WalkKit
import Derived.ProofKit
import Derived.OpenShut
import Derived.ShutString
import Derived.ChangeOld
import Derived.SizedLaws
import Derived.Sort.Row
import Derived.Sort.Grow
import Derived.Lib.SlicesCompact
import Derived.Laws.IdiomCopy
import Derived.Laws.Append
import Derived.Test.YtolaaohibicllaaGreatMxKob
set_option maxHeartbeats 16000000
set_option linter.unusedSimpArgs false
set_option linter.unusedVariables false
namespace Mx
open Go Go.RowKit Go.ChangeShapes
inductive Ak where
 |cell (c:Ct)
 |struct (cs:List Ct)
inductive I_:Ak→V→Prop
 |cell {c:Ct} {u:T} (h:Has c u):I_ (.cell c) (.c u)
 |struct {cs:List Ct} {ts:List T} (h:rA cs ts):I_ (.struct cs) (.a ts)
inductive zc:List Ak→List V→Prop
 |nil:zc [] []
 |cons {k:Ak} {v:V} {ks:List Ak} {vs:List V} (h:I_ k v) (hs:zc ks vs):zc (k::ks) (v::vs)
def Ay(P:Program)(f:Nat):Ak→TypeId→Bool
 | .cell c,t=>zw P f c t&&P.readableRec t&&decide (t<P.types.size)
 | .struct cs,t=>(pI P t).isSome&&wY P f cs t&&P.readableRec t&&decide (t<P.types.size)
def uC(P:Program)(f:Nat):List Ak→List TypeId→Bool
 |[],[]=>true
 |k::ks,t::ts=>Ay P f k t&&uC P f ks ts
 |_,_=>false
variable {P:Program} {F:Nat→FuncId} {w:World} {H:Type} {enc:TypeId×Value→H}
theorem B0{f:Nat}{k:Ak}{t:TypeId}(h:Ay P f k t=true):P.readableRec t=true∧t<P.types.size:=by
 cases k<;>simp only[Ay,aj,decide_eq_true_eq] at h
 ·exact⟨h.1.2,h.2⟩
 ·exact⟨h.1.2,h.2⟩
theorem Cy{f:Nat}{w':World}{r:Reach}{b:Nat}{base:Nat}{sp:Nat→Bool}{held:Bool}:∀(ks:List Ak) (ts:List TypeId) (vs:List Value) (ds:List (DataW H)) (ps:List MemPlace),uC P f ks ts=true→
  DataW.TrodAll enc P w base sp held ts vs ds ps→(∀(j:Nat) t v,ts[j]? =some t→vs[j]? =some v→Value.okWide P w' r b t v)→
  ∃as,zc ks as∧as.length=vs.length∧ds.length=ks.length∧∀(i:Nat) (v:V) (x:Value),as[i]? =some v→vs[i]? =some x→kQ (x0 F w) v x:=by
 intro ks
 induction ks with
 |nil=>
  intro ts vs ds ps hok h _;cases ts with
  |cons=>cases hok
  |nil=>
   obtain⟨rfl,rfl,_⟩:=trodAll_nil h;exact⟨[],.nil,rfl,rfl,fun i v x h=>by simp at h⟩
 |cons k ks ih=>
  intro ts vs ds ps hok h hv;cases ts with
  |nil=>cases hok
  |cons t ts=>
   simp only[uC,aj] at hok;obtain⟨v,vs',d,ds',p,q,rfl,rfl,rfl,h1,h2⟩:=trodAll_cons h;obtain⟨as,g1,g2,g3,g4⟩:=ih ts vs' ds' q hok.2 h2 (fun j t v h1 h2=>hv (j+1) t v (by simpa using h1) (by simpa using h2));have hv0:=hv 0 t v rfl rfl;have hk:∃a,I_ k a∧kQ (x0 F w) a v:=by
    cases k with
    |cell c=>
     have ho:=hok.1;simp only[Ay,aj] at ho;obtain⟨u,k1,k2⟩:=Gu (F:=F) ho.1.1 hv0 h1;exact⟨.c u,.cell k1,.c _ _ k2⟩
    |struct cs=>
     have ho:=hok.1;simp only[Ay,aj] at ho;obtain⟨fs,hfs⟩:=Option.isSome_iff_exists.1 ho.1.1.1;obtain⟨ts',k1,k2⟩:=Cz (F:=F) hfs ho.1.1.2 hv0 h1;exact⟨.a ts',.struct k1,k2⟩
   obtain⟨a,k1,k2⟩:=hk;refine⟨a::as,.cons k1 g1,by simp[g2],by simp[g3],fun i v' x h1 h2=> ?_⟩;cases i with
   |zero=>simp at h1 h2;subst h1 h2;exact k2
   |succ i=>exact g4 i v' x (by simpa using h1) (by simpa using h2)
theorem BA{f:Nat}(hl:laidOutB P=true){W':World}(hb:Below w.heap.size w W'):∀(ks:List Ak) (ts:List TypeId) (vs:List Value) (ds:List (DataW H)) (ps:List MemPlace),uC P f ks ts=true→
  DataW.TrodAll enc P w 0 (fun _=>true) true ts vs ds ps→(∀x∈ps,x.block<w.heap.size)→DataW.TrodAll enc P W' 0 (fun b=>decide (b<w.heap.size)) true ts vs ds ps:=by
 intro ks
 induction ks with
 |nil=>
  intro ts vs ds ps hok h _;cases ts with
  |cons=>cases hok
  |nil=>
   obtain⟨rfl,rfl,rfl⟩:=trodAll_nil h;exact trodAll_mk0
 |cons k ks ih=>
  intro ts vs ds ps hok h hlt;cases ts with
  |nil=>cases hok
  |cons t ts=>
   simp only[uC,aj] at hok;obtain⟨v,vs',d,ds',p,q,rfl,rfl,rfl,h1,h2⟩:=trodAll_cons h;obtain⟨r1,r2⟩:=B0 hok.1;exact trodAll_cons_mk (Below.trod hl r1 r2 h1 hb (fun x hx=>hlt x (List.mem_append_left _ hx))) (ih ts vs' ds' q hok.2 h2 (fun x hx=>hlt x (List.mem_append_right _ hx)))
theorem FC{C:Checked}{M:Nat→Option Body}{os:Os}{fn:Func}{s:ChangeSpec}{conds:List PathCond}{rt:TypeId}(hM:sB C.prog F M)(law f:Nat)(ks:List Ak)(own:ownKnob C.prog.godebug=none)(started:os.Started)
  (noInit:C.prog.inits.idxOf? (F law)=none) (hfn:C.prog.funcs[F law]? =some fn)
  (witness:∃(w:World) (tape:Tape) (i:Input),w.os=os∧(w.forCall tape i).Shaped C.prog∧i.vars=[]∧Input.okWide C.prog (w.forCall tape i) .any w.heap.size (F law) i∧
   s.pre6 enc C.prog fn conds false (w.forCall tape i).memory i.args∧({}:Assume).holds C.prog (lone (Frame.enter C.prog (F law) i.args .normal) [] (w.forCall tape i)))
  (hl:laidOutB C.prog=true) (hargs:uC C.prog f ks fn.params.toList=true) (hres:fn.resultTypes= #[rt]) (hrt:C.prog.underlying rt=some .bool) (hvars:s.vars=[])
  (hspec:∀ds:List (DataW H),ds.length=ks.length→s.fn H (ds++[])={results:=[.lit (.bool true)],args:=ds})
  (hrun:∀as,zc ks as→run M law as []=some (.c (.bool true),[])) (hG:F 999998=0:=by kernel_rfl):
  ReturnsInHanded {} C os (F law) .any (s.pre6 enc C.prog fn conds false) (s.post enc C.prog fn false true false false):=by
 refine returnsInHanded_of_change_sized (C:=C) own started noInit hfn witness ?_;intro W base args ds gs before hval hW _ _ _;have hW':=hW;obtain⟨p,q,hA,hV,rfl,_,_⟩:=hW;have hlt:∀x∈p,x.block<W.heap.size:=fun x hx=>hW'.lt x (List.mem_append_left _ hx)
 rw[hvars] at hV;obtain⟨rfl,rfl⟩:=trodVars_none hV;obtain⟨as,h1,h2,h3,h4⟩:=Cy (F:=F) ks _ _ ds p hargs hA (fun j t v k1 k2=>hval j t v (by simpa using k1) (by simpa using k2));refine(DO hM (f:=law) (b:=true) (hrun as h1) (.inl hG) (vals:=args) (w:=W) (by simpa using h2) (fun i v x k1 k2=>h4 i v x k1 (by simpa using k2))).mono fun e W' ⟨he,bel⟩=> ?_
 subst he;have hb:=BA hl bel ks _ _ ds p hargs hA hlt;refine⟨_,rfl,ds,[],p++[],[],p,[],hW', ?_, ?_, ?_,bel.frame _,fun h=>by cases h⟩
 ·rw[hspec ds h3,hres];exact trodAll_mk1 (shut_bool hrt _)
 ·rw[hspec ds h3];exact hb
 ·rw[hspec ds h3,hvars];rfl
def Mv(num:List (Nat×Nat))(f:Nat):FuncId:=(get num f).getD 0
end Mx
namespace Mx
open Go
variable {M:Nat→Option Body}
def n6:T→Bool
 | .int .. =>true
 | .bool _=>true
 | .str _=>true
 | .sl own _ _=> !own
 |_=>false
def Me:T→T
 | .sl _ sz rows=> .sl false sz rows
 |t=>t
def Hv:T→Bool
 | .int .. =>true
 | .bool _=>true
 | .str _=>true
 | .sl .. =>true
 |_=>false
theorem yM{o:List (Nat×Ob)}{t:T}(h:n6 t=true):im o t=some t∧Bq o t=[]∧cl o t=some t:=by
 cases t<;>simp[n6] at h<;>simp[im,FR,sV,Bq,Dw,wr,cl,h]
theorem pt{o:List (Nat×Ob)}{r:List T}(h:r.all n6=true):h_ (im o) r=some r∧r.flatMap (Bq o)=[]∧h_ (cl o) r=some r:=by
 induction r with
 |nil=>exact⟨rfl,rfl,rfl⟩
 |cons t r ih=>
  simp only[List.all_cons,aj] at h;obtain⟨h1,h2,h3⟩:=ih h.2;obtain⟨k1,k2,k3⟩:=yM (o:=o) h.1;simp only[h_,h1,h3,k1,k3,k2,h2,cj,cR,and_self]
theorem Gr{n:Nat}{l:List (Nat×Nat×Nat)}{r:List T}(h:r.all Hv=true)(q:Nat):rZ n l [] q r=some (r.map Me,[]):=by
 induction r generalizing q with
 |nil=>rfl
 |cons t r ih=>
  simp only[List.all_cons,aj] at h;have h1:=ih h.2 (q+1);cases t<;>simp[Hv] at h<;>simp[rZ,oP,get,h1,Me]
theorem Gl{n:Nat}{o:List (Nat×Ob)}{f:Nat}{r r':List T}(hr:r.all n6=true)(hr':r'.all Hv=true)(h:run M f [.a r] []=some (.a r',[])):
  gh (run M) n o f [.a r] [] []=some (.a (r'.map Me),[]):=by
 obtain⟨h1,h2,_⟩:=pt (o:=o) hr;simp[gh,args,uF,V.im,V.wr,h1,h2,h,lg,back,pQ,Gr hr']
theorem Ck{n:Nat}{o:List (Nat×Ob)}{f:Nat}{r s:List T}{b:Bool}(hr:r.all n6=true)(hs:s.all n6=true)(h:run M f [.a r,.a s] []=some (.c (.bool b),[])):
  gh (run M) n o f [.a r,.a s] [] []=some (.c (.bool b),[]):=by
 obtain⟨h1,h2,_⟩:=pt (o:=o) hr;obtain⟨k1,k2,_⟩:=pt (o:=o) hs;simp[gh,args,uF,V.im,V.wr,h1,h2,k1,k2,h,lg,back,pQ,oP]
theorem CQ{α:Type}(a:List α)(x:α)(b:List α)(n:Nat)(h:a.length=n)(y:α):(a++x::b).set n y=a++y::b:=by
 subst h;simp
theorem Da{α:Type}(a:List α)(x:α)(b:List α)(n:Nat)(h:a.length=n):(a++x::b)[n]? =some x:=by
 subst h;simp
theorem FG(ks:List Nat):keep ks ([]:List (Nat×Ob))=[]:=by
 induction ks with
 |nil=>rfl
 |cons k ks ih=>simp[uH,get,ih]
def EY(n f:Nat):C:= .seq (.seq (.ai [⟨some 8,.mv (.t 4),none⟩,
    ⟨some 9,.mv (.t 0),none⟩,
    ⟨some 10,.len (.t 9),none⟩,
    ⟨some 11,.bin .lss (.t 8) (.t 10),none⟩] [0,3,4,11] [7])
 (.cond (.t 11) (.skip) (.exit 0)))
 (.seq (.block 1 (.ai [⟨some 14,.mv (.t 3),none⟩,
   ⟨some 15,.mv (.t 4),none⟩,
   ⟨some 16,.mv (.t 0),none⟩,
   ⟨some 17,.mv (.t 4),none⟩,
   ⟨some 18,.kG n (.t 16) (.t 17),none⟩,
   ⟨some 19,.load true n (.t 18),none⟩,
   ⟨some 20,.call f [.t 19] [] [],none⟩,
   ⟨some 21,.kG n (.t 14) (.t 15),none⟩,
   ⟨none,.store n (.t 21) (.t 20),none⟩] [0,3,4] [7]))
 (.ai [⟨some 12,.mv (.t 4),none⟩,
   ⟨some 13,.bin .add (.t 12) (.k (.int .i64 1)),none⟩,
   ⟨some 4,.mv (.t 13),none⟩] [0,3,4] [7]))
def K0(n by':Nat)(z:List T)(f:Nat):C:= .seq (.ai [⟨some 2,.nil n,none⟩] [0] [])
 (.seq (.ai [⟨some 5,.mv (.t 0),none⟩,
   ⟨some 6,.len (.t 5),none⟩,
   ⟨some 7,.EE n by' z (.t 6),none⟩,
   ⟨some 3,.mv (.t 7),none⟩] [0,3] [7])
 (.seq (.seq (.ai [⟨some 4,.mv (.k (.int .i64 0)),none⟩] [0,3,4] [7])
 (.block 0 (.loop (EY n f))))
 (.seq (.ai [⟨some 22,.mv (.t 3),none⟩,
   ⟨some 2,.mv (.t 22),none⟩] [2] [2,7])
 (.ret))))
def Jw(n by':Nat)(z:List T)(f:Nat):Fn:={np:=1,body:=K0 n by' z f,res:=[.tmp 2]}
def rn(n:Nat)(z:List T)(rows:List (List T))(i:Nat)(x:Nat×Nat):St:=
 {t:=[(0,.c (.sl false n rows)),(3,.c (.row 7 x.1 0 rows.length)),(4,.c (I i))],o:=[(7,⟨x.1,n,true,false,rows.take i++List.replicate (rows.length-i) z⟩)],n:=x.2}
theorem wx{F n by':Nat}{z:List T}{f:Nat}(h:M F=some (.code (Jw n by' z f)))(hz:z.length=n){rows:List (List T)}(hl:rows.length≤1048576)(hby:by'≤4096)
  (he:∀r∈rows,r.length=n∧r.all n6=true∧∃r',run M f [.a r] []=some (.a r',[])∧r'.all Hv=true∧r'.map Me=r):
  run M F [.c (.sl false n rows)] []=some (.c (.sl true n rows),[]):=by
 refine au (b:=Jw n by' z f) h ⟨rows.length+1, ?_⟩;obtain⟨g,hr⟩:=iN (f:=cz (run M) (rows.length+1) (EY n f)) (rn n z rows) (fun i=>i≤rows.length) (fun i=>rows.length-i) (fun _=>())
  (fun _ (m:Nat×Nat)=>(.exit 0,{t:=[(0,.c (.sl false n rows)),(3,.c (.row 7 m.1 0 rows.length)),(4,.c (I rows.length)),(11,.c (.bool false))],o:=[(7,⟨m.1,n,true,false,rows⟩)],n:=m.2}))
  (by
   rintro i ⟨v,x⟩ hi;by_cases hlt:i<rows.length
   ·have e5:IntKind.i64.wrap ((i:Int)+1)=(i:Int)+1:=wrap_i64 (by omega) (by omega);obtain⟨k1,k2,r',k3,k4,k5⟩:=he rows[i] (ax hlt);have hc:=fun nn=>Gl (n:=nn) (o:=[(7,(⟨v,n,true,false,rows.take i++List.replicate (rows.length-i) z⟩:Ob))]) k2 k4 k3
    rw[k5] at hc;have hti:(rows.take i).length=i:=by simp;omega
    have hrep:List.replicate (rows.length-i) z=z::List.replicate (rows.length-(i+1)) z:=by
     rw[show rows.length-i=(rows.length-(i+1))+1 by omega,List.replicate_succ]
    have h3:(rows.take i++List.replicate (rows.length-i) z)[i]? =some z:=by
     rw[hrep];exact Da _ _ _ _ hti
    have h3':∀h,(rows.take i++List.replicate (rows.length-i) z)[i]'h=z:=fun h=>by rw[cw h] at h3;exact Option.some.inj h3
    have h4:(rows.take i++List.replicate (rows.length-i) z).set i rows[i]=rows.take (i+1)++List.replicate (rows.length-(i+1)) z:=by
     rw[hrep,CQ _ _ _ _ hti,List.take_succ_eq_append_getElem hlt,b4];rfl
    have h5:i<(rows.take i++List.replicate (rows.length-i) z).length:=by simp;omega
    have h6:(List.take n rows[i])=rows[i]:=ab (by omega);have h7:setAt z 0 rows[i]=rows[i]:=by
     simp only[setAt,List.take_zero,List.nil_append,Nat.zero_add];rw[dY (by omega),cR]
    have h8:=(pt (o:=[(7,(⟨v,n,true,false,rows.take i++List.replicate (rows.length-i) z⟩:Ob))]) k2).2.2;have h9:n≤z.length:=by omega
    obtain⟨y,hy⟩:∃y,cz (run M) (rows.length+1) (EY n f) (rn n z rows i (v,x))=some (.normal,rn n z rows (i+1) y):=by
     simp only[aE];simp[rn,EY,hlt,e5,k1,hc,h3,h4,h6,h7,h8,h9,-gh,-setAt]
    exact .inl ⟨i+1,y,hy,hlt,by omega,rfl⟩
   ·have:i=rows.length:=by omega
    subst this;exact .inr ⟨(v,x+64),by simp[rn,EY],by simp⟩)
  (rows.length+1) 0 (Nat.zero_le _) (by omega)
 have c1:rows.length≤4294967296:=by omega
 have c2:by'*rows.length≤140737488355328:=Nat.le_trans (Nat.mul_le_mul hby hl) (by decide);simp[rn] at hr;simp[ba,Jw,K0,aa,hr,c1,c2,ab]
def z7:C:= .seq (.seq (.ai [⟨some 8,.mv (.t 4),none⟩,
    ⟨some 9,.mv (.t 0),none⟩,
    ⟨some 10,.len (.t 9),none⟩,
    ⟨some 11,.bin .lss (.t 8) (.t 10),none⟩] [0,3,4,11] [7])
 (.cond (.t 11) (.skip) (.exit 0)))
 (.seq (.block 1 (.ai [⟨some 14,.mv (.t 3),none⟩,
   ⟨some 15,.mv (.t 4),none⟩,
   ⟨some 16,.mv (.t 0),none⟩,
   ⟨some 17,.mv (.t 4),none⟩,
   ⟨some 18,.kG 1 (.t 16) (.t 17),none⟩,
   ⟨some 19,.load false 1 (.t 18),none⟩,
   ⟨some 20,.kG 1 (.t 14) (.t 15),none⟩,
   ⟨none,.store 1 (.t 20) (.t 19),none⟩] [0,3,4] [7]))
 (.ai [⟨some 12,.mv (.t 4),none⟩,
   ⟨some 13,.bin .add (.t 12) (.k (.int .i64 1)),none⟩,
   ⟨some 4,.mv (.t 13),none⟩] [0,3,4] [7]))
def Jc(by':Nat)(z:T):C:= .seq (.ai [⟨some 2,.nil 1,none⟩] [0] [])
 (.seq (.ai [⟨some 5,.mv (.t 0),none⟩,
   ⟨some 6,.len (.t 5),none⟩,
   ⟨some 7,.EE 1 by' [z] (.t 6),none⟩,
   ⟨some 3,.mv (.t 7),none⟩] [0,3] [7])
 (.seq (.seq (.ai [⟨some 4,.mv (.k (.int .i64 0)),none⟩] [0,3,4] [7])
 (.block 0 (.loop z7)))
 (.seq (.ai [⟨some 21,.mv (.t 3),none⟩,
   ⟨some 2,.mv (.t 21),none⟩] [2] [2,7])
 (.ret))))
def EZ(by':Nat)(z:T):Fn:={np:=1,body:=Jc by' z,res:=[.tmp 2]}
theorem DD{F by':Nat}{z:T}(h:M F=some (.code (EZ by' z))){l:List T}(hl:l.length≤1048576)(hby:by'≤4096)(he:∀t∈l,n6 t=true):
  run M F [.c (.sl false 1 (l.map fun t=>[t]))] []=some (.c (.sl true 1 (l.map fun t=>[t])),[]):=by
 refine au (b:=EZ by' z) h ⟨l.length+1, ?_⟩;obtain⟨rows,hrows⟩:∃rows,rows=l.map fun t=>[t]:=⟨_,rfl⟩
 have hlen:rows.length=l.length:=by rw[hrows];simp
 rw[←hrows];obtain⟨g,hr⟩:=iN (f:=cz (run M) (l.length+1) z7) (rn 1 [z] rows) (fun i=>i≤rows.length) (fun i=>rows.length-i) (fun _=>())
  (fun _ (m:Nat×Nat)=>(.exit 0,{t:=[(0,.c (.sl false 1 rows)),(3,.c (.row 7 m.1 0 rows.length)),(4,.c (I rows.length)),(11,.c (.bool false))],o:=[(7,⟨m.1,1,true,false,rows⟩)],n:=m.2}))
  (by
   rintro i ⟨v,x⟩ hi;by_cases hlt:i<rows.length
   ·have e5:IntKind.i64.wrap ((i:Int)+1)=(i:Int)+1:=wrap_i64 (by omega) (by omega);have hlt':i<l.length:=by omega
    have k0:rows[i]=[l[i]]:=by simp[hrows]
    have h8:=(yM (o:=[(7,(⟨v,1,true,false,rows.take i++List.replicate (rows.length-i) [z]⟩:Ob))]) (he l[i] (ax hlt'))).2.2;have hti:(rows.take i).length=i:=by simp;omega
    have hrep:List.replicate (rows.length-i) [z]=[z]::List.replicate (rows.length-(i+1)) [z]:=by
     rw[show rows.length-i=(rows.length-(i+1))+1 by omega,List.replicate_succ]
    have h3:(rows.take i++List.replicate (rows.length-i) [z])[i]? =some [z]:=by
     rw[hrep];exact Da _ _ _ _ hti
    have h3':∀h,(rows.take i++List.replicate (rows.length-i) [z])[i]'h=[z]:=fun h=>by rw[cw h] at h3;exact Option.some.inj h3
    have h4:(rows.take i++List.replicate (rows.length-i) [z]).set i [l[i]]=rows.take (i+1)++List.replicate (rows.length-(i+1)) [z]:=by
     rw[hrep,CQ _ _ _ _ hti,List.take_succ_eq_append_getElem hlt,b4,k0];rfl
    have h5:i<(rows.take i++List.replicate (rows.length-i) [z]).length:=by simp;omega
    obtain⟨y,hy⟩:∃y,cz (run M) (l.length+1) z7 (rn 1 [z] rows i (v,x))=some (.normal,rn 1 [z] rows (i+1) y):=by
     simp only[aE];simp[rn,z7,hlt,e5,k0,h3,h4,h8,setAt,-cl]
    exact .inl ⟨i+1,y,hy,hlt,by omega,rfl⟩
   ·have:i=rows.length:=by omega
    subst this;exact .inr ⟨(v,x+64),by simp[rn,z7],by simp⟩)
  (l.length+1) 0 (Nat.zero_le _) (by omega)
 have c1:rows.length≤4294967296:=by omega
 have c2:by'*rows.length≤140737488355328:=Nat.le_trans (Nat.mul_le_mul hby (by omega:rows.length≤1048576)) (by decide);simp[rn] at hr;simp[ba,EZ,Jc,aa,hr,c1,c2,ab]
def Gf(n f:Nat):C:= .seq (.seq (.ai [⟨some 11,.mv (.t 5),none⟩,
    ⟨some 12,.mv (.t 0),none⟩,
    ⟨some 13,.len (.t 12),none⟩,
    ⟨some 14,.bin .lss (.t 11) (.t 13),none⟩] [0,1,5,14] [])
 (.cond (.t 14) (.skip) (.exit 0)))
 (.seq (.block 1 (.seq (.gV [⟨some 17,.mv (.t 0),none⟩,
   ⟨some 18,.mv (.t 5),none⟩,
   ⟨some 19,.kG n (.t 17) (.t 18),none⟩,
   ⟨some 20,.load true n (.t 19),none⟩,
   ⟨some 21,.mv (.t 1),none⟩,
   ⟨some 22,.mv (.t 5),none⟩,
   ⟨some 23,.kG n (.t 21) (.t 22),none⟩,
   ⟨some 24,.load true n (.t 23),none⟩,
   ⟨some 25,.call f [.t 20,.t 24] [] [],none⟩,
   ⟨some 26,.not (.t 25),none⟩] [[],[],[0,1],[0,1,2],[],[],[4,5],[4,5,6],[0,1,2,3,4,5,6,7],[0,1,2,3,4,5,6,7,8]] [0,1,5,26] [])
 (.cond (.t 26) (.seq (.ai [⟨some 4,.mv (.k (.bool false)),none⟩] [4] [])
 (.ret)) (.skip))))
 (.ai [⟨some 15,.mv (.t 5),none⟩,
   ⟨some 16,.bin .add (.t 15) (.k (.int .i64 1)),none⟩,
   ⟨some 5,.mv (.t 16),none⟩] [0,1,5] []))
def LC(n f:Nat):C:= .seq (.ai [⟨some 4,.mv (.k (.bool false)),none⟩] [0,1] [])
 (.seq (.seq (.ai [⟨some 6,.mv (.t 0),none⟩,
   ⟨some 7,.len (.t 6),none⟩,
   ⟨some 8,.mv (.t 1),none⟩,
   ⟨some 9,.len (.t 8),none⟩,
   ⟨some 10,.bin .neq (.t 7) (.t 9),none⟩] [0,1,10] [])
 (.cond (.t 10) (.seq (.ai [⟨some 4,.mv (.k (.bool false)),none⟩] [4] [])
 (.ret)) (.skip)))
 (.seq (.seq (.ai [⟨some 5,.mv (.k (.int .i64 0)),none⟩] [0,1,5] [])
 (.block 0 (.loop (Gf n f))))
 (.seq (.ai [⟨some 4,.mv (.k (.bool true)),none⟩] [4] [])
 (.ret))))
def Kf(n f:Nat):Fn:={np:=2,body:=LC n f,res:=[.tmp 4]}
def yV(n:Nat)(rows:List (List T))(i:Nat)(x:Nat):St:={t:=[(0,.c (.sl false n rows)),(1,.c (.sl false n rows)),(5,.c (I i))],o:=[],n:=x}
theorem xz{F n f:Nat}(h:M F=some (.code (Kf n f))){rows:List (List T)}(hl:rows.length≤4611686018427387904)
  (he:∀r∈rows,r.length=n∧r.all n6=true∧run M f [.a r,.a r] []=some (.c (.bool true),[])):
  run M F [.c (.sl false n rows),.c (.sl false n rows)] []=some (.c (.bool true),[]):=by
 refine au (b:=Kf n f) h ⟨rows.length+1, ?_⟩;obtain⟨g,hr⟩:=iN (f:=cz (run M) (rows.length+1) (Gf n f)) (yV n rows) (fun i=>i≤rows.length) (fun i=>rows.length-i) (fun _=>())
  (fun _ m=>(.exit 0,{t:=[(0,.c (.sl false n rows)),(1,.c (.sl false n rows)),(5,.c (I rows.length)),(14,.c (.bool false))],o:=[],n:=m}))
  (by
   intro i x hi;by_cases hlt:i<rows.length
   ·have e5:IntKind.i64.wrap ((i:Int)+1)=(i:Int)+1:=wrap_i64 (by omega) (by omega);obtain⟨k1,k2,k3⟩:=he rows[i] (ax hlt);have hc:=fun nn=>Ck (n:=nn) (o:=[]) k2 k2 k3
    have h6:(List.take n rows[i])=rows[i]:=ab (by omega);obtain⟨y,hy⟩:∃y,cz (run M) (rows.length+1) (Gf n f) (yV n rows i x)=some (.normal,yV n rows (i+1) y):=by
     simp[yV,Gf,hlt,e5,k1,hc,h6,FG,-gh]
    exact .inl ⟨i+1,y,hy,hlt,by omega,rfl⟩
   ·have:i=rows.length:=by omega
    subst this;exact .inr ⟨x+64,by simp[yV,Gf],by simp⟩)
  (rows.length+1) 0 (Nat.zero_le _) (by omega)
 simp[yV] at hr;simp[ba,Kf,LC,aa,hr]
def aA(l:List Int):List (List T):=l.map fun n=>[I n]
abbrev ints(l:List Int):T:= .sl false 1 (aA l)
theorem AN(l:List Int):(aA l).length=l.length:=by simp[aA]
theorem Ij(l:List Int)(i:Nat)(h:i<(aA l).length):(aA l)[i]=[I (l[i]'(by simpa [aA] using h))]:=by simp[aA]
theorem AO(a b:List Int):aA a++aA b=aA (a++b):=by simp[aA]
theorem pq:aA []=[]:=rfl
theorem D0(l:List Int)(n:Nat):(aA l).take n=aA (l.take n):=by simp[aA]
attribute [simp] AN Ij AO pq D0
def upto(k:Int):Nat→List Int
 |0=>[]
 |n+1=>upto k n++[k+n]
theorem ES(k:Int)(n:Nat):(upto k n).length=n:=by
 induction n with
 |zero=>rfl
 |succ n ih=>simp[upto,ih]
attribute [simp] ES
def KS(l:List Int)(i:Nat)(x:Nat):St:={t:=[(0,.c (ints l)),(1,.c (ints l)),(5,.c (I i))],o:=[],n:=x}
theorem fN.ak(h:fN.k M)(l:List Int)(hl:l.length≤4611686018427387904):run M 45 [.c (ints l),.c (ints l)] []=some (.c (.bool true),[]):=by
 refine au (b:=fN.m) h ⟨l.length+1, ?_⟩;obtain⟨g,hr⟩:=iN (f:=cz (run M) (l.length+1) fN.l0) (KS l) (fun i=>i≤l.length) (fun i=>l.length-i) (fun _=>())
  (fun _ m=>(.exit 0,{t:=[(0,.c (ints l)),(1,.c (ints l)),(5,.c (I l.length)),(14,.c (.bool false))],o:=[],n:=m}))
  (by
   intro i x hi;by_cases hlt:i<l.length
   ·have e5:=cA (i:=i) (by omega);obtain⟨y,hy⟩:∃y,cz (run M) (l.length+1) fN.l0 (KS l i x)=some (.normal,KS l (i+1) y):=by simp[KS,fN.l0,hlt,e5]
    exact .inl ⟨i+1,y,hy,hlt,by omega,rfl⟩
   ·have:i=l.length:=by omega
    subst this;exact .inr ⟨x+64,by simp[KS,fN.l0],by simp⟩)
  (l.length+1) 0 (Nat.zero_le _) (by omega)
 simp[KS] at hr;simp[ba,fN.m,fN.b,aa,hr]
theorem D1(l:List Int):(aA l).all (fun r=>r.all T.scalar)=true:=by
 simp only[aA,List.all_map,fL];intro n _;rfl
attribute [simp] D1
theorem i_.ak(h:i_.k M)(l:List Int)(hl:l.length≤1048576):run M 42 [.c (ints l)] []=some (.c (.sl true 1 (aA l)),[]):=by
 have:=DD (M:=M) (F:=42) (by':=8) (z:= .int .i64 0) h (l:=l.map I) (by simpa using hl) (by omega) (fun t ht=>by obtain⟨n,_,rfl⟩:=List.mem_map.1 ht;rfl);rw[List.map_map] at this;exact this
theorem gP.ak(h:gP.k M)(l:List Int)(hl:l.length≤9223372036854775807)(n:Int)(hn:0≤n)(hn':n≤9223372036854775807):run M 108 [.c (ints l),.c (I n)] []=some (.c (I (if n<l.length then -1 else n-l.length)),[]):=by
 refine au (b:=gP.m) h ⟨0, ?_⟩;have e5:IntKind.i64.wrap (n-(l.length:Int))=n-(l.length:Int):=wrap_i64 (by omega) (by omega);by_cases hc:n<l.length
 ·have h1:n-(l.length:Int)<0:=by omega
  simp[ba,gP.m,gP.b,aa,e5,h1,hc]
 ·have h1:¬n-(l.length:Int)<0:=by omega
  simp[ba,gP.m,gP.b,aa,e5,h1,hc]
end Mx
namespace Mx
open Go
variable {P:Program} {F:Nat→FuncId}
def p0(rows:List (List T)):Option (List Int):=h_ (fun (r:List T)=>match r with
 |[.int .i64 n]=>some n
 |_=>none) rows
theorem vk:∀{rows:List (List T)} {zs:List Int},p0 rows=some zs→rows=aA zs
 |[],zs,h=>by simp[p0,h_] at h;subst h;rfl
 |r::rows,zs,h=>by
  simp only[p0,h_] at h;split at h
  ·rename_i y ys h1 h2;cases h;have:=vk (rows:=rows) (zs:=ys) h2;rw[this];split at h1
   ·cases h1;rfl
   ·cases h1
  ·cases h
theorem sK(zs:List Int):p0 (aA zs)=some zs:=by
 induction zs with
 |nil=>rfl
 |cons z zs ih=>unfold p0 aA at ih ⊢;simp only[bu,h_,ih]
def qc(as:List V)(lent:List (Nat×Ob)):Option (List Int):=match as,lent with
 |[.c (.row 0 0 0 len)],[(0,ob)]=>match p0 ob.rows with
  |some zs=>if ob.ct=0∧ob.sz=1∧ob.w=true∧ob.bx=false∧zs.length=len∧len≤4294967296 then some zs else none
  |none=>none
 |_,_=>none
def lQ(zs:List Int):List Int:=zs.mergeSort fun x y=>decide (x≤y)
def vg(as:List V)(lent:List (Nat×Ob)):Option (V×List (Nat×Ob)):=(qc as lent).map fun zs=>(.lM [],[(0,⟨0,1,true,false,aA (lQ zs)⟩)])
def oF(as:List V)(lent:List (Nat×Ob)):Option (V×List (Nat×Ob)):=(qc as lent).map fun zs=>
 (.c (.row 0 0 0 (Lib.compact zs).length),[(0,⟨0,1,true,false,aA (Lib.compact zs++List.replicate (zs.length-(Lib.compact zs).length) 0)⟩)])
theorem vu{as:List V}{lent:List (Nat×Ob)}{zs:List Int}(h:qc as lent=some zs):as=[.c (.row 0 0 0 zs.length)]∧lent=[(0,⟨0,1,true,false,aA zs⟩)]∧zs.length≤4294967296:=by
 unfold qc at h;split at h
 ·rename_i len ob;split at h
  ·rename_i zs' hz;split at h
   ·rename_i hc;cases h;obtain⟨h1,h2,h3,h4,h5,h6⟩:=hc;subst h5;refine⟨rfl, ?_,h6⟩;have:=vk hz;obtain⟨ct,sz,w,bx,rows⟩:=ob;simp only at h1 h2 h3 h4 this;subst h1 h2 h3 h4 this;rfl
   ·cases h
  ·cases h
 ·cases h
inductive GY (F:Nat→FuncId) (Pr:Nat→Prop) (E0:Nat→Option Loc) (zs:List Int) (vals:Array Value) (w:World):Prop where
 |none (hz:zs=[]) (hv:vals= #[.slice none 0 0]) (hE:E0 0=some .nil):GY F Pr E0 zs vals w
 |kP (b cap:Nat) (cs:Array Value) (e:TypeId) (fr:Nat×Nat) (hE:E0 0=some (.kP b cap 1)) (hv:vals= #[.slice (some ⟨b,0,none⟩) zs.length cap]) (hh:w.heap[b]? =some (.cells cs e fr)) (hs:cs.size=cap)
   (hf:∀o,o≤cs.size→¬(fr.1≤o∧o<fr.2)) (hl:zs.length≤cap) (hc:∀(i:Nat) (z:Int),zs[i]? =some z→cs[i]? =some (.int .i64 z)):GY F Pr E0 zs vals w
theorem uJ{zs:List Int}{i j:Nat}{r:List T}{t:T}(hi:(aA zs)[i]? =some r)(hj:r[j]? =some t):j=0∧∃z,zs[i]? =some z∧t= .int .i64 z:=by
 simp only[aA,iM,al] at hi;obtain⟨z,hz,rfl⟩:=hi;cases j with
 |zero=>simp at hj;exact⟨rfl,z,hz,hj.symm⟩
 |succ j=>simp at hj
theorem rowAt{Pr:Nat→Prop}{E0:Nat→Option Loc}{zs:List Int}{vals:Array Value}{w:World}
  (En:Entry F Pr E0 [.c (.row 0 0 0 zs.length)] [(0,⟨0,1,true,false,aA zs⟩)] vals w):GY F Pr E0 zs vals w:=by
 obtain⟨len,hq⟩:∃len,len=zs.length:=⟨_,rfl⟩
 rw[←hq] at En;have hn:vals.size=1:=En.n.symm;obtain⟨x,hx⟩:∃x,vals= #[x]:=by
  obtain⟨l⟩:=vals
  match l,hn with
  |[x],_=>exact⟨x,rfl⟩
 subst hx;have ha:=En.args 0 _ x rfl rfl;obtain⟨_,_,_,l,hl,hr⟩:=En.oc 0 _ (by simp[get];rfl);cases ha with
 |c _ _ ha=>
  cases ha with
  |row _ _ _ _ cap sz b hE hlen ho=>
   have hE':E0 0=some (.kP b cap sz):=hE;rw[hE'] at hl;cases hl;subst hq;obtain⟨e1,hob⟩:=hr;simp only at e1;subst e1;obtain⟨h1,h2,h3,cs,e,fr,m1,m2,m3,m4⟩:=hob;simp only at m2 m4;refine .kP b cap cs e fr hE (by simp[gK,Addr.add]) m1 (by omega) m3 (by omega) ?_;intro i z hz;have hi:(aA zs)[i]? =some [.int .i64 z]:=by simp[aA,hz]
   obtain⟨v,hv,hrep⟩:=m4 i 0 _ _ hi rfl;cases hrep;simpa using hv
  |oi _ _ hE=>
   exact .none (aY hq.symm) rfl hE
theorem CV{Pr:Nat→Prop}{E0:Nat→Option Loc}{zs zs':List Int}{w w':World}{b cap:Nat}{cs cs':Array Value}{e:TypeId}{fr:Nat×Nat}{res:V}{val:Value}
  (hE:E0 0=some (.kP b cap 1)) (hh:w.heap[b]? =some (.cells cs e fr)) (hs:cs.size=cap) (hf:∀o,o≤cs.size→¬(fr.1≤o∧o<fr.2)) (hl:zs.length≤cap)
  (hz:zs'.length=zs.length) (h1:w'.os=w.os) (h2:w'.tape=w.tape) (h3:w'.output=w.output) (hsz:w.heap.size≤w'.heap.size) (hh':w'.heap[b]? =some (.cells cs' e fr)) (hs':cs'.size=cs.size)
  (hfr:∀b',b'<w.heap.size→b'≠b→w'.heap[b']? =w.heap[b']?) (hc:∀(i:Nat) (z:Int),zs'[i]? =some z→cs'[i]? =some (.int .i64 z))
  (hres:yl (rx F Pr E0 [(0,⟨0,1,true,false,aA zs⟩)] E0 (fun _=>none) w') (fun _=>none) [(0,⟨0,1,true,false,aA zs⟩)] res val):
  CI F Pr E0 [(0,⟨0,1,true,false,aA zs⟩)] w E0 (fun _=>none) res [(0,⟨0,1,true,false,aA zs'⟩)] val w':=by
 refine⟨h1,h2,h3,hsz, ?_,fun v l h=>h,fun q b cap sz h=>(by cases h),fun q q' b cap sz cap' sz' h=>(by cases h),hres, ?_⟩
 ·intro b' hb' hn;refine hfr b' hb' fun q=>hn ⟨0,_,cap,1,by simp[get];rfl, ?_⟩
  rw[q];exact hE
 ·intro p ob ob' l hp hp' hEl;simp only[get] at hp hp';split at hp
  ·rename_i hp0;subst hp0;simp only[if_true] at hp';cases hp;cases hp';rw[hE] at hEl;cases hEl;refine⟨⟨rfl, ?_⟩, ?_⟩
   ·refine⟨by simp[aA];omega, ?_, ?_,cs',e,fr,hh',by simp only;omega,fun o ho=>hf o (by omega), ?_⟩
    ·intro i r hi;simp only[aA,iM,al] at hi;obtain⟨z,_,rfl⟩:=hi;rfl
    ·intro _ i j r t hi hj;obtain⟨_,z,_,rfl⟩:=uJ hi hj;exact .int _ _
    ·intro i j r t hi hj;obtain⟨rfl,z,hz,rfl⟩:=uJ hi hj;refine⟨.int .i64 z, ?_,.int _ _⟩;simp only[Nat.mul_one,Nat.add_zero];exact hc i z hz
   ·intro i j r t hi hj;obtain⟨_,z,_,rfl⟩:=uJ hi hj;exact .int _ _
  ·simp at hp
theorem Au{zs:List Int}{w:World}{b:Nat}{cs:Array Value}{e:TypeId}{fr:Nat×Nat}{cap:Nat}(hh:w.heap[b]? =some (.cells cs e fr))(hs:cs.size=cap)(hl:zs.length≤cap)
  (hf:∀o,o≤cs.size→¬(fr.1≤o∧o<fr.2)) (hc:∀(i:Nat) (z:Int),zs[i]? =some z→cs[i]? =some (.int .i64 z)):Sort.Holds (Value.int .i64) w b 0 zs.toArray:=by
 intro j hj;have hj':j<zs.length:=by simpa using hj
 refine⟨?_, ?_⟩
 ·have:=hc j zs[j] (cw hj');simp only[World.cell?,hh,Option.isSome_none,aB,if_false,Nat.zero_add];rw[this];simp[getElem!_pos,hj']
 ·simp only[World.frozen?,hh,Nat.zero_add];have:=hf j (by omega);obtain⟨lo,hi⟩:=fr;simp only at this;simp only[Bool.and_eq_false_iff,decide_eq_false_iff_not];omega
theorem sN(off:Nat)(d:Array Int)(c:Array Value):(Sort.putCells (Value.int .i64) off d c).size=c.size:=by simp[Sort.putCells]
theorem vr{zs:List Int}{c:Array Value}{i:Nat}{z:Int}(h:zs[i]? =some z)(hc:i<c.size):(Sort.putCells (Value.int .i64) 0 zs.toArray c)[i]? =some (.int .i64 z):=by
 have hi:i<zs.length:=by
  rcases Nat.lt_or_ge i zs.length with q|q
  ·exact q
  ·rw[jn q] at h;cases h
 have hz:zs[i]! =z:=by rw[getElem!_pos zs i hi];rw[cw hi] at h;exact Option.some.inj h
 simp only[Sort.putCells,Array.getElem?_mapIdx,Array.getElem?_eq_getElem hc,iF];rw[if_pos ⟨Nat.zero_le _,by simpa using hi⟩];simp[hz]
theorem vq(w:World)(b:Nat)(d:Array Int){cs:Array Value}{e:TypeId}{fr:Nat×Nat}(hh:w.heap[b]? =some (.cells cs e fr)):
  (Sort.putRow (Value.int .i64) w b 0 d).heap[b]? =some (.cells (Sort.putCells (Value.int .i64) 0 d cs) e fr)∧∀b',b'≠b→(Sort.putRow (Value.int .i64) w b 0 d).heap[b']? =w.heap[b']? :=by
 simp only[Sort.putRow,Sort.mapBlock,Array.getElem?_modify];refine⟨by simp[hh,Sort.onCells],fun b' hb=> ?_⟩;rw[if_neg (fun q=>hb q.symm)]
theorem yO(w:World)(os:Array Obj){b:Nat}(hb:b<w.heap.size):(Sort.grow w os).heap[b]? =w.heap[b]? :=by
 simp[Sort.grow,Array.getElem?_append,hb]
theorem F5{f:Nat}(hf:yf P F f=true)
  (hN:∀(p:Option Addr) (cap:Nat) (w:World),Calls P (F f) #[.slice p 0 cap] w fun e w'=>e= .returned (.tuple #[])∧w'=w)
  (hS:∀(kP off cap:Nat) (zs:List Int) (w:World),Sort.Holds (Value.int .i64) w kP off zs.toArray→kP<w.heap.size→zs.length<4611686018427387904→Calls P (F f) #[.slice (some ⟨kP,off,none⟩) zs.length cap] w fun e w'=>
   e= .returned (.tuple #[])∧∃n os,w'=Sort.grow (Sort.putRow (Value.int .i64) (Sort.ahead w n) kP off (zs.mergeSort fun x y=>decide (x≤y)).toArray) os):vS P F f vg:=by
 intro as lent res after hg;refine⟨hf,fun Pr E0 vals w En=> ?_⟩;unfold vg at hg;simp only[al] at hg;obtain⟨zs,hz,hg⟩:=hg;cases hg;obtain⟨rfl,rfl,hlen⟩:=vu hz;cases rowAt En with
 |none h1 h2 h3=>
  subst h1 h2;refine(hN none 0 w).mono ?_;rintro e w' ⟨rfl,rfl⟩;refine⟨.tuple #[],E0,fun _=>none,rfl,rfl,rfl,rfl,Nat.le_refl _,fun b _ _=>rfl,fun v l h=>h,fun q b cap sz h=>(by cases h),fun q q' b cap sz cap' sz' h=>(by cases h),by simp[yl,vQ], ?_⟩;intro p ob ob' l hp hp' hE;simp only[get] at hp hp';split at hp
  ·rename_i hp0;subst hp0;simp only[if_true] at hp';cases hp;cases hp';rw[h3] at hE;cases hE;exact⟨⟨by simp[lQ,aA],rfl⟩,fun i j r t h=>by simp[lQ,aA] at h⟩
  ·simp at hp
 |kP b cap cs e fr hE hv hh hs hfz hl hc=>
  subst hv;have hb:b<w.heap.size:=by
   rcases Nat.lt_or_ge b w.heap.size with q|q
   ·exact q
   ·rw[Array.getElem?_eq_none q] at hh;cases hh
  refine(hS b 0 cap zs w (Au hh hs hl hfz hc) hb (by omega)).mono ?_;rintro e' w' ⟨rfl,n,os,rfl⟩;refine⟨.tuple #[],E0,fun _=>none,rfl, ?_⟩;have hp:=vq (Sort.ahead w n) b (lQ zs).toArray (by simpa using hh);have hsl:(lQ zs).length=zs.length:=by simp[lQ]
  have hgb:b<(Sort.putRow (Value.int .i64) (Sort.ahead w n) b 0 (lQ zs).toArray).heap.size:=by simpa using hb
  refine CV (zs':=lQ zs) (cs':=Sort.putCells (Value.int .i64) 0 (lQ zs).toArray cs) hE hh hs hfz hl hsl rfl rfl rfl ?_ ((yO _ os hgb).trans hp.1) (sN _ _ _) ?_ ?_ (by simp[yl,vQ])
  ·simp[Sort.grow]
  ·intro b' hb' hne;rw[yO _ os (by simpa using hb')];exact hp.2 b' hne
  ·intro i z hi;refine vr hi ?_;have:i<(lQ zs).length:=by
    rcases Nat.lt_or_ge i (lQ zs).length with q|q
    ·exact q
    ·rw[jn q] at hi;cases hi
   omega
theorem AV{f:Nat}(hf:yf P F f=true)
  (hN:∀(p:Option Addr) (cap:Nat) (w:World),Calls P (F f) #[.slice p 0 cap] w fun e w'=>e= .returned (.slice p 0 cap)∧w'=w)
  (hS:∀(kP off cap:Nat) (zs:List Int) (w:World),Sort.Holds (Value.int .i64) w kP off zs.toArray→zs.length≤9223372036854775807→zs.length≤cap→Calls P (F f) #[.slice (some ⟨kP,off,none⟩) zs.length cap] w fun e w'=>
   e= .returned (.slice (some ⟨kP,off,none⟩) (Lib.compact zs).length cap)∧∃q,w'=Sort.putRow (Value.int .i64) (Sort.ahead w q) kP off (Lib.compact zs++List.replicate (zs.length-(Lib.compact zs).length) 0).toArray)
  (hlen:∀zs:List Int,(Lib.compact zs).length≤zs.length):vS P F f oF:=by
 intro as lent res after hg;refine⟨hf,fun Pr E0 vals w En=> ?_⟩;unfold oF at hg;simp only[al] at hg;obtain⟨zs,hz,hg⟩:=hg;cases hg;obtain⟨rfl,rfl,hlen'⟩:=vu hz;cases rowAt En with
 |none h1 h2 h3=>
  subst h1 h2;have hc:Lib.compact ([]:List Int)=[]:=aY (Nat.le_zero.1 (hlen []));refine(hN none 0 w).mono ?_;rintro e w' ⟨rfl,rfl⟩;refine⟨.slice none 0 0,E0,fun _=>none,rfl,rfl,rfl,rfl,Nat.le_refl _,fun b _ _=>rfl,fun v l h=>h,fun q b cap sz h=>(by cases h),fun q q' b cap sz cap' sz' h=>(by cases h), ?_, ?_⟩
  ·simp only[yl,vZ,hc,dy];exact .row 0 0 0 0 _ fun ob hob=> .oi 0 0 h3
  intro p ob ob' l hp hp' hE;simp only[get] at hp hp';split at hp
  ·rename_i hp0;subst hp0;simp only[if_true] at hp';cases hp;cases hp';rw[h3] at hE;cases hE;exact⟨⟨by simp[hc,aA],rfl⟩,fun i j r t h=>by simp[hc,aA] at h⟩
  ·simp at hp
 |kP b cap cs e fr hE hv hh hs hfz hl hc=>
  subst hv;have hb:b<w.heap.size:=by
   rcases Nat.lt_or_ge b w.heap.size with q|q
   ·exact q
   ·rw[Array.getElem?_eq_none q] at hh;cases hh
  refine(hS b 0 cap zs w (Au hh hs hl hfz hc) (by omega) hl).mono ?_;have hk:=hlen zs;generalize Lib.compact zs=ks at*;rintro e' w' ⟨rfl,n,rfl⟩;refine⟨.slice (some ⟨b,0,none⟩) ks.length cap,E0,fun _=>none,rfl, ?_⟩;obtain⟨zz,hzz⟩:∃zz,zz=ks++List.replicate (zs.length-ks.length) 0:=⟨_,rfl⟩
  have hsl:zz.length=zs.length:=by rw[hzz];simp;omega
  rw[←hzz];have hp:=vq (Sort.ahead w n) b zz.toArray (by simpa using hh);refine CV (zs':=zz) (cs':=Sort.putCells (Value.int .i64) 0 zz.toArray cs) hE hh hs hfz hl hsl rfl rfl rfl (by simp) hp.1 (sN _ _ _) ?_ ?_ ?_
  ·intro b' hb' hne;exact hp.2 b' hne
  ·intro i z hi;refine vr hi ?_;have:i<zz.length:=by
    rcases Nat.lt_or_ge i zz.length with q|q
    ·exact q
    ·rw[jn q] at hi;cases hi
   omega
  ·simp only[yl,vZ];refine .row 0 0 0 ks.length _ fun ob hob=> ?_
   have:=j7.row (X:=rx F Pr E0 [(0,⟨0,1,true,false,aA zs⟩)] E0 (fun _=>none) (Sort.putRow (Value.int .i64) (Sort.ahead w n) b 0 zz.toArray)) 0 0 0 ks.length cap 1 b hE (by omega) (.inr rfl);simpa [gK,Addr.add] using this
def Jx(tab:List (Nat×Fn))(ext:List (Nat×(List V→List (Nat×Ob)→Option (V×List (Nat×Ob)))))(f:Nat):Option Body:=match get tab f with
 |some b=>some (.code b)
 |none=>(get ext f).map fun g=> .ext g
theorem BE{tab:List (Nat×Fn)}{ext:List (Nat×(List V→List (Nat×Ob)→Option (V×List (Nat×Ob))))}(h:∀p∈tab,aG P F p.1 p.2=true)(hx:∀p∈ext,vS P F p.1 p.2):sB P F (Jx tab ext):=by
 intro f;unfold Jx;cases hg:get tab f with
 |some b=>exact h _ (get_mem hg)
 |none=>
  cases hq:get ext f with
  |none=>simp
  |some g=>exact hx _ (get_mem hq)
end Mx
namespace Mx
open Go
def bU.l0:C:= .seq (.seq (.ai [Qm 9 6,Qm 10 0,Q 11 (.len (.t 10)),Q 12 (.bin .lss (.t 9) (.t 11))] [0,1,5,6,12] [8,27,31,50])
 (.cond (.t 12) (.skip) (.exit 0)))
 (.seq (.block 1 (.seq (.ai [Qm 15 0,Qm 16 6,Qa 17 1 15 16,Ql 18 17,Qm 19 1,Q 20 (.bin .lss (.t 18) (.t 19))] [0,1,5,6,20] [8,27,31,50])
 (.cond (.t 20) (.ai [Qm 21 5,Qm 22 0,Qm 23 6,Qa 24 1 22 23,Ql 25 24,Q 26 (.bF 1 1 [.int .i64 0] [(0,.t 25)]),Q 27 (.app 1 8 (.t 21) (.t 26)),Qm 5 27] [0,1,5,6] [8,27,31,50]) (.skip))))
 (.ai [Qm 13 6,Q 14 (.bin .add (.t 13) (kI 1)),Qm 6 14] [0,1,5,6] [8,27,31,50]))
def bU.l1:C:= .seq (.seq (.ai [Qm 32 7,Qm 33 0,Q 34 (.len (.t 33)),Q 35 (.bin .lss (.t 32) (.t 34))] [0,1,5,7,35] [8,27,31,50])
 (.cond (.t 35) (.skip) (.exit 2)))
 (.seq (.block 3 (.seq (.ai [Qm 38 0,Qm 39 7,Qa 40 1 38 39,Ql 41 40,Qm 42 1,Q 43 (.bin .gtr (.t 41) (.t 42))] [0,1,5,7,43] [8,27,31,50])
 (.cond (.t 43) (.ai [Qm 44 5,Qm 45 0,Qm 46 7,Qa 47 1 45 46,Ql 48 47,Q 49 (.bF 1 1 [.int .i64 0] [(0,.t 48)]),Q 50 (.app 1 8 (.t 44) (.t 49)),Qm 5 50] [0,1,5,7] [8,27,31,50]) (.skip))))
 (.ai [Qm 36 7,Q 37 (.bin .add (.t 36) (kI 1)),Qm 7 37] [0,1,5,7] [8,27,31,50]))
def bU.b:C:= .seq (.ai [Q 4 (.nil 1)] [0,1] [])
 (.seq (.ai [Q 8 (.bF 1 0 [.int .i64 0] []),Qm 5 8] [0,1,5] [8,27,31,50])
 (.seq (.seq (.ai [Qi 6 0] [0,1,5,6] [8,27,31,50])
 (.block 0 (.loop bU.l0)))
 (.seq (.ai [Qm 28 5,Qm 29 1,Q 30 (.bF 1 1 [.int .i64 0] [(0,.t 29)]),Q 31 (.app 1 8 (.t 28) (.t 30)),Qm 5 31] [0,1,5] [8,27,31,50])
 (.seq (.seq (.ai [Qi 7 0] [0,1,5,7] [8,27,31,50])
 (.block 2 (.loop bU.l1)))
 (.seq (.ai [Qm 51 5,Qm 4 51] [4] [4,8,27,31,50])
 (.ret))))))
def bU.m:Fn:={np:=2,body:=bU.b,res:=[.tmp 4]}
def bU.k(M:Nat→Option Body):Prop:=M 133=some (.code bU.m)
def aT.l0:C:= .seq (.seq (.ai [Qm 9 6,Qm 10 0,Q 11 (.len (.t 10)),Q 12 (.bin .lss (.t 9) (.t 11))] [0,1,5,6,12] [8,12700,14600])
 (.cond (.t 12) (.skip) (.exit 0)))
 (.seq (.block 1 (.seq (.ai [Qm 15 5,Qm 16 0,Qm 17 6,Qa 18 1 16 17,Ql 19 18,Q 20 (.call 132 [.t 15,.t 19] [] []),Q 21 (.not (.t 20))] [0,1,5,6,21] [8,12700,14600])
 (.cond (.t 21) (.ai [Qm 22 5,Qm 23 0,Qm 24 6,Qa 25 1 23 24,Ql 26 25,Q 27 (.call 133 [.t 22,.t 26] [] [(0,12700)]),Qm 5 27] [0,1,5,6] [8,12700,14600]) (.skip))))
 (.ai [Qm 13 6,Q 14 (.bin .add (.t 13) (kI 1)),Qm 6 14] [0,1,5,6] [8,12700,14600]))
def aT.l1:C:= .seq (.seq (.ai [Qm 28 7,Qm 29 1,Q 30 (.len (.t 29)),Q 31 (.bin .lss (.t 28) (.t 30))] [1,5,7,31] [8,12700,14600])
 (.cond (.t 31) (.skip) (.exit 2)))
 (.seq (.block 3 (.seq (.ai [Qm 34 5,Qm 35 1,Qm 36 7,Qa 37 1 35 36,Ql 38 37,Q 39 (.call 132 [.t 34,.t 38] [] []),Q 40 (.not (.t 39))] [1,5,7,40] [8,12700,14600])
 (.cond (.t 40) (.ai [Qm 41 5,Qm 42 1,Qm 43 7,Qa 44 1 42 43,Ql 45 44,Q 46 (.call 133 [.t 41,.t 45] [] [(0,14600)]),Qm 5 46] [1,5,7] [8,12700,14600]) (.skip))))
 (.ai [Qm 32 7,Q 33 (.bin .add (.t 32) (kI 1)),Qm 7 33] [1,5,7] [8,12700,14600]))
def aT.b:C:= .seq (.ai [Q 4 (.nil 1)] [0,1] [])
 (.seq (.ai [Q 8 (.bF 1 0 [.int .i64 0] []),Qm 5 8] [0,1,5] [8,12700,14600])
 (.seq (.seq (.ai [Qi 6 0] [0,1,5,6] [8,12700,14600])
 (.block 0 (.loop aT.l0)))
 (.seq (.seq (.ai [Qi 7 0] [1,5,7] [8,12700,14600])
 (.block 2 (.loop aT.l1)))
 (.seq (.ai [Qm 47 5,Qm 4 47] [4] [4,8,12700,14600])
 (.ret)))))
def aT.m:Fn:={np:=2,body:=aT.b,res:=[.tmp 4]}
def aT.k(M:Nat→Option Body):Prop:=M 43=some (.code aT.m)∧bf.k M∧bU.k M
def fv.b:C:= .seq (.ai [Q 4 (.nil 1)] [0,1] [])
 (.seq (.ai [Qm 6 0,Q 7 (.call 134 [.t 6] [] [(0,10700)]),Qm 8 1,Q 9 (.app 1 8 (.t 7) (.t 8)),Qm 5 9] [5] [9,10700])
 (.seq (.ai [Qm 10 5,Q 11 (.call 135 [.t 10] [0] [])] [5] [9,10700])
 (.seq (.ai [Qm 12 5,Q 13 (.call 136 [.t 12] [0] [(0,11300)]),Qm 4 13] [4] [4,9,10700,11300])
 (.ret))))
def fv.m:Fn:={np:=2,body:=fv.b,res:=[.tmp 4]}
def fv.k(M:Nat→Option Body):Prop:=M 44=some (.code fv.m)∧eR.k M∧M 135=some (.ext vg)∧M 136=some (.ext oF)
def fF.b:C:= .seq (.ai [Qb 2 false] [0] [])
 (.seq (.ai [Qm 3 0,Q 4 (.call 101 [.t 3,kI 0,kI 7] [] []),Qm 2 4] [2] [])
 (.ret))
def fF.m:Fn:={np:=1,body:=fF.b,res:=[.tmp 2]}
def fF.k(M:Nat→Option Body):Prop:=M 148=some (.code fF.m)∧bP.k M
def jN.l0:C:= .seq (.seq (.ai [Qm 8 4,Qm 9 0,Q 10 (.len (.t 9)),Q 11 (.bin .lss (.t 8) (.t 10))] [0,3,4,11] [7])
 (.cond (.t 11) (.skip) (.exit 0)))
 (.seq (.block 1 (.ai [Qm 14 3,Qm 15 4,Qm 16 0,Qm 17 4,Qa 18 7 16 17,QL 19 7 18,Q 20 (.call 18 [.t 19] [] []),Qa 21 7 14 15,Qs 7 21 20] [0,3,4] [7]))
 (.ai [Qm 12 4,Q 13 (.bin .add (.t 12) (kI 1)),Qm 4 13] [0,3,4] [7]))
def jN.b:C:= .seq (.ai [Q 2 (.nil 7)] [0] [])
 (.seq (.ai [Qm 5 0,Q 6 (.len (.t 5)),Q 7 (.EE 7 96 [.int .i64 0,.str ⟨#[]⟩,.int .i64 0,.int .i64 0,.int .i64 0,.aL 4,.aL 1] (.t 6)),Qm 3 7] [0,3] [7])
 (.seq (.seq (.ai [Qi 4 0] [0,3,4] [7])
 (.block 0 (.loop jN.l0)))
 (.seq (.ai [Qm 22 3,Qm 2 22] [2] [2,7])
 (.ret))))
def jN.m:Fn:={np:=1,body:=jN.b,res:=[.tmp 2]}
def jN.k(M:Nat→Option Body):Prop:=M 117=some (.code jN.m)∧j0.k M
def iO.b:C:= .seq (.ai [Qv 1 0,Q 2 (.alloc [.int .i64 0,.int .i64 0,.aL 7,.aL 1])] [1,2] [1,2,11200,11600])
 (.seq (.ai [Q 3 (.alloc [.int .i64 0,.int .i64 0,.aL 7,.aL 1])] [1,2,3] [1,2,3,11200,11600])
 (.seq (.ai [Qf 4 0 1,Ql 5 4,Qf 6 0 3,Qs 1 6 5] [1,2,3] [1,2,3,11200,11600])
 (.seq (.ai [Qf 7 1 1,Ql 8 7,Qf 9 1 3,Qs 1 9 8] [1,2,3] [1,2,3,11200,11600])
 (.seq (.ai [Qf 10 2 1,Ql 11 10,Q 12 (.call 117 [.t 11] [] [(0,11200)]),Qf 13 2 3,Qs 1 13 12] [1,2,3] [1,2,3,11200,11600])
 (.seq (.ai [Qf 14 3 1,Ql 15 14,Q 16 (.call 42 [.t 15] [] [(0,11600)]),Qf 17 3 3,Qs 1 17 16] [2,3] [2,3,11200,11600])
 (.seq (.ai [QL 18 4 3,Qs 4 2 18] [2] [2,11200,11600])
 (.ret)))))))
def iO.m:Fn:={np:=1,body:=iO.b,res:=[.cell 2 true 4]}
def iO.k(M:Nat→Option Body):Prop:=M 30=some (.code iO.m)∧i_.k M∧jN.k M
def jO.l0:C:= .seq (.seq (.ai [Qm 12 5,Qm 13 0,Q 14 (.len (.t 13)),Q 15 (.bin .lss (.t 12) (.t 14))] [0,1,5,15] [])
 (.cond (.t 15) (.skip) (.exit 0)))
 (.seq (.block 1 (.seq (.ai [Qm 18 0,Qm 19 5,Qa 20 7 18 19,QL 21 7 20,Qm 22 1,Q 23 (.call 17 [.t 21,.t 22] [] []),Qm 1 23] [0,1,5] [])
 (.seq (.ai [Qm 24 1,Q 25 (.bin .lss (.t 24) (kI 0))] [0,1,5,25] [])
 (.cond (.t 25) (.seq (.ai [Qi 4 (-1)] [4] [])
 (.ret)) (.skip)))))
 (.ai [Qm 16 5,Q 17 (.bin .add (.t 16) (kI 1)),Qm 5 17] [0,1,5] []))
def jO.b:C:= .seq (.ai [Qi 4 0] [0,1] [])
 (.seq (.ai [Qm 6 1,Qm 7 0,Q 8 (.len (.t 7)),Q 9 (.bin .sub (.t 6) (.t 8)),Qm 1 9] [0,1] [])
 (.seq (.seq (.ai [Qm 10 1,Q 11 (.bin .lss (.t 10) (kI 0))] [0,1,11] [])
 (.cond (.t 11) (.seq (.ai [Qi 4 (-1)] [4] [])
 (.ret)) (.skip)))
 (.seq (.seq (.ai [Qi 5 0] [0,1,5] [])
 (.block 0 (.loop jO.l0)))
 (.seq (.ai [Qm 26 1,Qm 4 26] [4] [])
 (.ret)))))
def jO.m:Fn:={np:=2,body:=jO.b,res:=[.tmp 4]}
def jO.k(M:Nat→Option Body):Prop:=M 115=some (.code jO.m)∧ie.k M
def gm.b:C:= .seq (.ai [Qv 2 0,Qi 4 0] [1,2] [2])
 (.seq (.ai [Qf 5 2 2,Ql 6 5,Qm 7 1,Q 8 (.call 115 [.t 6,.t 7] [] []),Qm 1 8] [1,2] [2])
 (.seq (.seq (.ai [Qm 9 1,Q 10 (.bin .lss (.t 9) (kI 0))] [1,2,10] [2])
 (.cond (.t 10) (.seq (.ai [Qi 4 (-1)] [4] [])
 (.ret)) (.skip)))
 (.seq (.ai [Qf 11 3 2,Ql 12 11,Qm 13 1,Q 14 (.call 108 [.t 12,.t 13] [] []),Qm 1 14] [1] [])
 (.seq (.seq (.ai [Qm 15 1,Q 16 (.bin .lss (.t 15) (kI 0))] [1,16] [])
 (.cond (.t 16) (.seq (.ai [Qi 4 (-1)] [4] [])
 (.ret)) (.skip)))
 (.seq (.ai [Qm 17 1,Qm 4 17] [4] [])
 (.ret))))))
def gm.m:Fn:={np:=2,body:=gm.b,res:=[.tmp 4]}
def gm.k(M:Nat→Option Body):Prop:=M 29=some (.code gm.m)∧gP.k M∧jO.k M
def jQ.l0:C:= .seq (.seq (.ai [Qm 11 5,Qm 12 0,Q 13 (.len (.t 12)),Q 14 (.bin .lss (.t 11) (.t 13))] [0,1,5,14] [])
 (.cond (.t 14) (.skip) (.exit 0)))
 (.seq (.block 1 (.seq (.gV [Qm 17 0,Qm 18 5,Qa 19 7 17 18,QL 20 7 19,Qm 21 1,Qm 22 5,Qa 23 7 21 22,QL 24 7 23,Q 25 (.call 21 [.t 20,.t 24] [] []),Q 26 (.not (.t 25))] [[],[],[0,1],[0,1,2],[],[],[4,5],[4,5,6],[0,1,2,3,4,5,6,7],[0,1,2,3,4,5,6,7,8]] [0,1,5,26] [])
 (.cond (.t 26) (.seq (.ai [Qb 4 false] [4] [])
 (.ret)) (.skip))))
 (.ai [Qm 15 5,Q 16 (.bin .add (.t 15) (kI 1)),Qm 5 16] [0,1,5] []))
def jQ.b:C:= .seq (.ai [Qb 4 false] [0,1] [])
 (.seq (.seq (.ai [Qm 6 0,Q 7 (.len (.t 6)),Qm 8 1,Q 9 (.len (.t 8)),Q 10 (.bin .neq (.t 7) (.t 9))] [0,1,10] [])
 (.cond (.t 10) (.seq (.ai [Qb 4 false] [4] [])
 (.ret)) (.skip)))
 (.seq (.seq (.ai [Qi 5 0] [0,1,5] [])
 (.block 0 (.loop jQ.l0)))
 (.seq (.ai [Qb 4 true] [4] [])
 (.ret))))
def jQ.m:Fn:={np:=2,body:=jQ.b,res:=[.tmp 4]}
def jQ.k(M:Nat→Option Body):Prop:=M 121=some (.code jQ.m)∧j2.k M
def iP.b:C:= .seq (.ai [Qv 2 0,Qv 3 1,Qb 4 false] [2,3] [2,3])
 (.seq (.seq (.ai [Qf 5 0 2,Ql 6 5,Qf 7 0 3,Ql 8 7,Q 9 (.bin .neq (.t 6) (.t 8))] [2,3,9] [2,3])
 (.cond (.t 9) (.seq (.ai [Qb 4 false] [4] [])
 (.ret)) (.skip)))
 (.seq (.seq (.ai [Qf 10 1 2,Ql 11 10,Qf 12 1 3,Ql 13 12,Q 14 (.bin .neq (.t 11) (.t 13))] [2,3,14] [2,3])
 (.cond (.t 14) (.seq (.ai [Qb 4 false] [4] [])
 (.ret)) (.skip)))
 (.seq (.seq (.ai [Qf 15 2 2,Ql 16 15,Qf 17 2 3,Ql 18 17,Q 19 (.call 121 [.t 16,.t 18] [] []),Q 20 (.not (.t 19))] [2,3,20] [2,3])
 (.cond (.t 20) (.seq (.ai [Qb 4 false] [4] [])
 (.ret)) (.skip)))
 (.seq (.seq (.ai [Qf 21 3 2,Ql 22 21,Qf 23 3 3,Ql 24 23,Q 25 (.call 45 [.t 22,.t 24] [] []),Q 26 (.not (.t 25))] [26] [])
 (.cond (.t 26) (.seq (.ai [Qb 4 false] [4] [])
 (.ret)) (.skip)))
 (.seq (.ai [Qb 4 true] [4] [])
 (.ret))))))
def iP.m:Fn:={np:=2,body:=iP.b,res:=[.tmp 4]}
def iP.k(M:Nat→Option Body):Prop:=M 33=some (.code iP.m)∧fN.k M∧jQ.k M
def gv.b:C:= .seq (.ai [Q 2 (.nil 3)] [0] [])
 (.seq (.ai [Q 3 (.bF 3 0 [.int .i64 0,.int .i64 0,.int .i64 0] []),Qm 4 0,Q 5 (.app 3 24 (.t 3) (.t 4)),Qm 2 5] [2] [2,3,5])
 (.ret))
def gv.m:Fn:={np:=1,body:=gv.b,res:=[.tmp 2]}
def gv.k(M:Nat→Option Body):Prop:=M 239=some (.code gv.m)
def ei.b:C:= .seq (.ai [Qv 1 0,Q 2 (.alloc [.int .i64 0,.int .i64 0,.aL 3,.str ⟨#[]⟩])] [1,2] [1,2,10500])
 (.seq (.ai [Qf 3 2 1,Ql 4 3,Q 5 (.call 239 [.t 4] [] [(0,10500)]),Qf 6 2 1,Qs 1 6 5] [1,2] [1,2,10500])
 (.seq (.ai [QL 7 4 1,Qs 4 2 7] [2] [2,10500])
 (.ret)))
def ei.m:Fn:={np:=1,body:=ei.b,res:=[.cell 2 true 4]}
def ei.k(M:Nat→Option Body):Prop:=M 233=some (.code ei.m)∧gv.k M
def cm.l0:C:= .seq (.ai [Q 13 (.bin .lss (.t 12) (.t 11))] [1,2,3,10,11,12,13] [1,2,3,7,21,12600])
 (.seq (.cond (.t 13) (.skip) (.exit 0))
 (.seq (.block 1 (.seq (.ai [Qa 14 4 10 12,QL 15 4 14,Q 5 (.alloc [.int .i64 0,.int .i64 0,.aL 3,.str ⟨#[]⟩]),Qs 4 5 15] [1,2,3,5,10,11,12] [1,2,3,5,7,21,12600])
 (.gV [Qf 16 5 3,Ql 17 16,QL 18 4 5,Q 19 (.call 233 [.t 18] [] []),Q 20 (.bF 4 1 [.int .i64 0,.int .i64 0,.aL 3,.str ⟨#[]⟩] [(0,.t 19)]),Q 21 (.app 4 56 (.t 17) (.t 20)),
   Qf 22 5 3,Qs 1 22 21] [[],[0],[],[2],[2,3],lr 5,lr 6,lr 7] [1,2,3,10,11,12] [1,2,3,7,21,12600])))
 (.ai [Q 23 (.bin .add (.t 12) (kI 1)),Qm 12 23] [1,2,3,10,11,12] [1,2,3,7,21,12600])))
def cm.b:C:= .seq (.ai [Qv 1 0,Q 2 (.alloc [.int .i64 0,.str ⟨#[]⟩,.int .i64 0,.int .i64 0,.int .i64 0,.aL 4,.aL 1])] [1,2] [1,2,7,21,12600])
 (.seq (.ai [QL 6 7 1,Q 3 (.alloc [.int .i64 0,.str ⟨#[]⟩,.int .i64 0,.int .i64 0,.int .i64 0,.aL 4,.aL 1]),Qs 7 3 6] [1,2,3] [1,2,3,7,21,12600])
 (.seq (.ai [Q 7 (.bF 4 0 [.int .i64 0,.int .i64 0,.aL 3,.str ⟨#[]⟩] []),Qf 8 5 3,Qs 1 8 7] [1,2,3] [1,2,3,7,21,12600])
 (.seq (.seq (.ai [Qf 9 5 1,Ql 10 9,Q 11 (.len (.t 10)),Qi 12 0] [1,2,3,10,11,12] [1,2,3,7,21,12600])
 (.block 0 (.loop cm.l0)))
 (.seq (.ai [Qf 24 6 1,Ql 25 24,Q 26 (.call 134 [.t 25] [] [(0,12600)]),Qf 27 6 3,Qs 1 27 26] [2,3] [2,3,7,21,12600])
 (.seq (.ai [QL 28 7 3,Qs 7 2 28] [2] [2,7,21,12600])
 (.ret))))))
def cm.m:Fn:={np:=1,body:=cm.b,res:=[.cell 2 true 7]}
def cm.k(M:Nat→Option Body):Prop:=M 155=some (.code cm.m)∧eR.k M∧ei.k M
def fZ.l0:C:= .seq (.ai [Q 9 (.bin .lss (.t 8) (kI 3))] [0,3,5,8,9] [3,7,19])
 (.seq (.cond (.t 9) (.skip) (.exit 0))
 (.seq (.block 1 (.seq (.ai [Qm 10 8,Qm 6 10] [0,3,5,6,8] [3,7,19])
 (.gV [Qm 11 5,Qm 12 0,Qm 13 6,Q 14 (.bin .shr (.t 12) (.t 13)),Q 15 (.bin .and (.t 14) (kI 1)),QL 16 2 3,
   Q 17 (.build [.int .i64 0,.int .i64 0,.int .i64 0] [(0,1,.t 15),(1,2,.t 16)]),Q 18 (.bF 3 1 [.int .i64 0,.int .i64 0,.int .i64 0] [(0,.t 17)]),
   Q 19 (.app 3 24 (.t 11) (.t 18)),Qm 5 19] [[],[],[],[1,2],[1,2,3],[],[1,2,3,4,5],[1,2,3,4,5,6],lr 8,lr 9] [0,3,5,8] [3,7,19])))
 (.ai [Q 20 (.bin .add (.t 8) (kI 1)),Qm 8 20] [0,3,5,8] [3,7,19])))
def fZ.b:C:= .seq (.ai [Qv 3 1,Q 4 (.nil 3)] [0,3] [3])
 (.seq (.ai [Q 7 (.bF 3 0 [.int .i64 0,.int .i64 0,.int .i64 0] []),Qm 5 7] [0,3,5] [3,7,19])
 (.seq (.seq (.ai [Qi 8 0] [0,3,5,8] [3,7,19])
 (.block 0 (.loop fZ.l0)))
 (.seq (.ai [Qm 21 5,Qm 4 21] [4] [4,7,19])
 (.ret))))
def fZ.m:Fn:={np:=2,body:=fZ.b,res:=[.tmp 4]}
def fZ.k(M:Nat→Option Body):Prop:=M 157=some (.code fZ.m)
def dU.b:C:= .seq (.ai [Qv 5 0,Qv 9 4,Q 10 (.alloc [.int .i64 0,.str ⟨#[]⟩,.int .i64 0,.int .i64 0,.int .i64 0,.aL 4,.aL 1]),Qb 11 false] [1,2,3,5,9,10] [5,9,10,47,11405,11406,15705,15706])
 (.seq (.ai [QL 13 7 5,Q 14 (.call 155 [.t 13] [] [(5,11405),(6,11406)]),Q 12 (.alloc [.int .i64 0,.str ⟨#[]⟩,.int .i64 0,.int .i64 0,.int .i64 0,.aL 4,.aL 1]),Qs 7 12 14] [1,2,3,5,9,10,12] [5,9,10,12,47,11405,11406,15705,15706])
 (.seq (.seq (.ai [QL 15 7 5,Q 16 (.call 74 [.t 15] [] []),Q 17 (.not (.t 16)),Qm 18 17,Qg 19 (.load true 7 (.t 5)) 18 false,Qg 20 (.mv (.t 1)) 18 false,
   Qg 21 (.call 72 [.t 19,.t 20] [] []) 18 false,Qg 22 (.bin .geq (.t 21) (kI 0)) 18 false,Q 23 (.pick (.t 18) (kB true) (.t 22)),Qm 24 23,Qg 25 (.bN 6 (.t 5)) 24 false,
   Qg 26 (.load false 1 (.t 25)) 24 false,Qg 27 (.mv (.t 1)) 24 false,Qg 28 (.call 156 [.t 26,.t 27] [] []) 24 false,Q 29 (.pick (.t 24) (kB true) (.t 28)),Qm 30 29,
   Qg 31 (.mv (.t 2)) 30 false,Qg 32 (.call 148 [.t 31] [] []) 30 false,Qg 33 (.not (.t 32)) 30 false,Q 34 (.pick (.t 30) (kB true) (.t 33))] [1,2,3,5,9,10,12,34] [5,9,10,12,47,11405,11406,15705,15706])
 (.cond (.t 34) (.seq (.ai [QL 35 7 12,Qs 7 10 35,Qb 11 false] [10,11] [10,47,11405,11406,15705,15706])
 (.ret)) (.skip)))
 (.seq (.gV [Qf 36 5 12,Ql 37 36,Qm 38 1,Qf 39 4 5,Ql 40 39,Qm 41 2,QL 42 2 9,Q 43 (.call 157 [.t 41,.t 42] [] []),Qm 44 3,
   Q 45 (.build [.int .i64 0,.int .i64 0,.aL 3,.str ⟨#[]⟩] [(0,1,.t 38),(1,1,.t 40),(2,1,.t 43),(3,1,.t 44)]),
   Q 46 (.bF 4 1 [.int .i64 0,.int .i64 0,.aL 3,.str ⟨#[]⟩] [(0,.t 45)]),Q 47 (.app 4 56 (.t 37) (.t 46)),Qf 48 5 12,Qs 1 48 47] [[],[0],[],[],[3],[],[],[5,6],[],[2,3,4,5,6,7,8],[2,3,4,5,6,7,8,9],lr 11,lr 12,lr 13] [5,10,12] [5,10,12,47,11405,11406,15705,15706])
 (.seq (.ai [Qf 49 4 12,Ql 50 49,Q 51 (.bin .add (.t 50) (kI 1)),Qf 52 4 12,Qs 1 52 51] [5,10,12] [5,10,12,47,11405,11406,15705,15706])
 (.seq (.seq (.ai [QL 53 7 12,Q 54 (.call 74 [.t 53] [] []),Q 55 (.not (.t 54))] [5,10,12,55] [5,10,12,47,11405,11406,15705,15706])
 (.cond (.t 55) (.seq (.ai [QL 56 7 5,Q 57 (.call 155 [.t 56] [] [(5,15705),(6,15706)]),Qs 7 10 57,Qb 11 false] [10,11] [10,47,11405,11406,15705,15706])
 (.ret)) (.skip)))
 (.seq (.ai [QL 58 7 12,Qs 7 10 58,Qb 11 true] [10,11] [10,47,11405,11406,15705,15706])
 (.ret)))))))
def dU.m:Fn:={np:=5,body:=dU.b,res:=[.cell 10 true 7,.tmp 11]}
def dU.k(M:Nat→Option Body):Prop:=M 70=some (.code dU.m)∧cy.k M∧bC.k M∧fF.k M∧cm.k M∧aI.k M∧fZ.k M
def jr.b:C:= .seq (.ai [Q 4 (.nil 1)] [0,1] [])
 (.seq (.ai [Qm 6 0,Q 7 (.call 134 [.t 6] [] [(0,10700)]),Qm 8 1,Q 9 (.bF 1 1 [.int .i64 0] [(0,.t 8)]),Q 10 (.app 1 8 (.t 7) (.t 9)),Qm 5 10] [5] [10,10700])
 (.seq (.ai [Qm 11 5,Q 12 (.call 135 [.t 11] [0] [])] [5] [10,10700])
 (.seq (.ai [Qm 13 5,Q 14 (.call 136 [.t 13] [0] [(0,11400)]),Qm 4 14] [4] [4,10,10700,11400])
 (.ret))))
def jr.m:Fn:={np:=2,body:=jr.b,res:=[.tmp 4]}
def jr.k(M:Nat→Option Body):Prop:=M 163=some (.code jr.m)∧eR.k M∧M 135=some (.ext vg)∧M 136=some (.ext oF)
def aX.b:C:= .seq (.ai [Q 6 (.nil 4)] [0,1,2] [0,26])
 (.seq (.ai [Qm 8 0,Qm 9 1,Qm 10 2,Qm 11 0,Q 12 (.len (.t 11)),Q 13 (.wL 4 (.t 8) (some (.t 9)) (some (.t 10)) (some (.t 12)))] [0,1,2] [0,26])
 (.seq (.seq (.ai [Qm 14 1,Qm 15 2,Q 16 (.bin .eql (.t 14) (.t 15))] [0,1,2,16] [0,26])
 (.cond (.t 16) (.seq (.ai [Qm 17 0,Qm 6 17] [6] [0,6,26])
 (.ret)) (.skip)))
 (.seq (.ai [Qm 18 0,Q 19 (.len (.t 18)),Qm 7 19] [0,1,2,7] [0,26])
 (.seq (.gV [Qm 20 0,Qm 21 1,Q 22 (.wL 4 (.t 20) none (some (.t 21)) none),Qm 23 0,Qm 24 2,Q 25 (.wL 4 (.t 23) (some (.t 24)) none none),Q 26 (.yk 4 56 (.t 22) (.t 25)),Qm 0 26] [[],[],[0,1],[],[],[3,4],lr 6,lr 7] [0,7] [0,26])
 (.seq (.ai [Qm 27 0,Qm 28 0,Q 29 (.len (.t 28)),Qm 30 7,Q 31 (.yc 4 (.t 27) (some (.t 29)) (some (.t 30))),Qn (.EH [.int .i64 0,.int .i64 0,.aL 3,.str ⟨#[]⟩] (.t 31))] [0] [0,26])
 (.seq (.ai [Qm 32 0,Qm 6 32] [6] [0,6,26])
 (.ret)))))))
def aX.m:Fn:={np:=3,body:=aX.b,res:=[.tmp 6]}
def aX.k(M:Nat→Option Body):Prop:=M 162=some (.code aX.m)
def fH.b:C:= .seq (.ai [Qv 2 0,Q 4 (.alloc [.int .i64 0,.str ⟨#[]⟩,.int .i64 0,.int .i64 0,.int .i64 0,.aL 4,.aL 1]),Qb 5 false] [1,2,4] [2,4,10905,10906,13200,13700])
 (.seq (.ai [QL 8 7 2,Q 9 (.call 155 [.t 8] [] [(5,10905),(6,10906)]),Q 6 (.alloc [.int .i64 0,.str ⟨#[]⟩,.int .i64 0,.int .i64 0,.int .i64 0,.aL 4,.aL 1]),Qs 7 6 9] [1,2,4,6] [2,4,6,10905,10906,13200,13700])
 (.seq (.ai [QL 10 7 2,Qm 11 1,Q 12 (.call 72 [.t 10,.t 11] [] []),Qm 7 12] [1,2,4,6,7] [2,4,6,10905,10906,13200,13700])
 (.seq (.seq (.ai [QL 13 7 2,Q 14 (.call 74 [.t 13] [] []),Q 15 (.not (.t 14)),Qm 16 15,Qg 17 (.mv (.t 7)) 16 false,Qg 18 (.bin .lss (.t 17) (kI 0)) 16 false,
   Q 19 (.pick (.t 16) (kB true) (.t 18)),Qm 20 19,Qg 21 (.bN 6 (.t 2)) 20 false,Qg 22 (.load false 1 (.t 21)) 20 false,Qg 23 (.len (.t 22)) 20 false,
   Qg 24 (.bin .eql (.t 23) (kI 40)) 20 false,Q 25 (.pick (.t 20) (kB true) (.t 24))] [1,2,4,6,7,25] [2,4,6,10905,10906,13200,13700])
 (.cond (.t 25) (.seq (.ai [QL 26 7 6,Qs 7 4 26,Qb 5 false] [4,5] [4,10905,10906,13200,13700])
 (.ret)) (.skip)))
 (.seq (.ai [Qf 27 5 6,Ql 28 27,Qm 29 7,Qm 30 7,Q 31 (.bin .add (.t 30) (kI 1)),Q 32 (.call 162 [.t 28,.t 29,.t 31] [0] [(0,13200)]),Qf 33 5 6,Qs 1 33 32] [1,2,4,6] [2,4,6,10905,10906,13200,13700])
 (.seq (.ai [Qf 34 6 2,Ql 35 34,Qm 36 1,Q 37 (.call 163 [.t 35,.t 36] [] [(0,13700)]),Qf 38 6 6,Qs 1 38 37] [4,6] [4,6,10905,10906,13200,13700])
 (.seq (.ai [QL 39 7 6,Qs 7 4 39,Qb 5 true] [4,5] [4,10905,10906,13200,13700])
 (.ret)))))))
def fH.m:Fn:={np:=2,body:=fH.b,res:=[.cell 4 true 7,.tmp 5]}
def fH.k(M:Nat→Option Body):Prop:=M 73=some (.code fH.m)∧cy.k M∧bC.k M∧cm.k M∧aX.k M∧jr.k M
def fV.b:C:= .seq (.ai [Qv 2 0,Qv 3 1,Qb 4 false] [2,3] [2,3])
 (.seq (.ai [Qf 5 0 2,Ql 6 5,Qf 7 0 3,Ql 8 7,Q 9 (.bin .gtr (.t 6) (.t 8)),Qm 10 9,Qg 11 (.bN 0 (.t 2)) 10 false,Qg 12 (.load false 1 (.t 11)) 10 false,
   Qg 13 (.bN 0 (.t 3)) 10 false,Qg 14 (.load false 1 (.t 13)) 10 false,Qg 15 (.bin .eql (.t 12) (.t 14)) 10 false,Qg 16 (.mv (.t 15)) 10 false,Qg 17 (.bN 1 (.t 2)) 16 true,
   Qg 18 (.load false 1 (.t 17)) 16 true,Qg 19 (.bN 1 (.t 3)) 16 true,Qg 20 (.load false 1 (.t 19)) 16 true,Qg 21 (.bin .gtr (.t 18) (.t 20)) 16 true,
   Qg 22 (.pick (.t 16) (.t 21) (kB false)) 10 false,Q 23 (.pick (.t 10) (kB true) (.t 22)),Qm 4 23] [4] [])
 (.ret))
def fV.m:Fn:={np:=2,body:=fV.b,res:=[.tmp 4]}
def fV.k(M:Nat→Option Body):Prop:=M 275=some (.code fV.m)
def jc.b:C:= .seq (.ai [Qv 3 0,Qv 5 2,Q 6 (.alloc [.int .i64 0,.int .i64 0,.int .i64 0])] [1,3,5,6] [3,5,6])
 (.seq (.ai [Qm 8 1,QL 9 2 5,Q 10 (.build [.int .i64 0,.int .i64 0,.int .i64 0] [(0,1,.t 8),(1,2,.t 9)]),Q 7 (.alloc [.int .i64 0,.int .i64 0,.int .i64 0]),Qs 3 7 10] [3,5,6,7] [3,5,6,7])
 (.seq (.seq (.ai [QL 11 2 5,Qf 12 1 3,QL 13 2 12,Q 14 (.call 275 [.t 11,.t 13] [] []),Q 15 (.not (.t 14)),Qm 16 15,Qg 17 (.load true 3 (.t 7)) 16 false,
   Qg 18 (.call 272 [.t 17] [] []) 16 false,Qg 19 (.not (.t 18)) 16 false,Q 20 (.pick (.t 16) (kB true) (.t 19))] [3,6,7,20] [3,6,7])
 (.cond (.t 20) (.seq (.ai [QL 21 3 3,Qs 3 6 21] [6] [6])
 (.ret)) (.skip)))
 (.seq (.ai [QL 22 3 7,Qs 3 6 22] [6] [6])
 (.ret))))
def jc.m:Fn:={np:=3,body:=jc.b,res:=[.cell 6 true 3]}
def jc.k(M:Nat→Option Body):Prop:=M 240=some (.code jc.m)∧ja.k M∧fV.k M
def cF.l0:C:= .seq (.ai [Q 25 (.bin .lss (.t 24) (.t 23))] [1,5,7,22,23,24,25] [5,11200])
 (.seq (.cond (.t 25) (.skip) (.exit 0))
 (.seq (.block 1 (.seq (.ai [Qm 26 24,Qa 27 3 22 24,QL 28 3 27,Q 9 (.alloc [.int .i64 0,.int .i64 0,.int .i64 0]),Qm 8 26,Qs 3 9 28] [1,5,7,8,9,22,23,24] [5,9,11200])
 (.seq (.ai [Qm 29 1,Qm 30 8,Q 31 (.bin .shr (.t 29) (.t 30)),Q 32 (.bin .and (.t 31) (kI 1)),Qm 10 32] [1,5,7,8,9,10,22,23,24] [5,9,11200])
 (.seq (.ai [Qf 33 0 9,Ql 34 33,Qm 35 10,Q 36 (.bin .neq (.t 34) (.t 35))] [1,5,7,8,9,10,22,23,24,36] [5,9,11200])
 (.cond (.t 36) (.ai [Qm 37 7,Qm 38 8,QL 39 3 9,Qm 40 10,QL 41 2 5,Q 42 (.call 240 [.t 39,.t 40,.t 41] [] []),Qa 43 3 37 38,Qs 3 43 42] [1,5,7,22,23,24] [5,11200]) (.skip))))))
 (.ai [Q 44 (.bin .add (.t 24) (kI 1)),Qm 24 44] [1,5,7,22,23,24] [5,11200])))
def cF.b:C:= .seq (.ai [Qv 5 2,Q 6 (.nil 3)] [0,1,5] [5])
 (.seq (.ai [Qm 11 0,Q 12 (.call 239 [.t 11] [] [(0,11200)]),Qm 7 12] [0,1,5,7] [5,11200])
 (.seq (.seq (.ai [Qm 13 0,Q 14 (.call 235 [.t 13] [] []),Q 15 (.not (.t 14)),Qm 16 15,Qg 17 (.mv (.t 1)) 16 false,Qg 18 (.call 148 [.t 17] [] []) 16 false,Qg 19 (.not (.t 18)) 16 false,
   Q 20 (.pick (.t 16) (kB true) (.t 19))] [1,5,7,20] [5,11200])
 (.cond (.t 20) (.seq (.ai [Qm 21 7,Qm 6 21] [6] [6,11200])
 (.ret)) (.skip)))
 (.seq (.seq (.ai [Qm 22 7,Q 23 (.len (.t 22)),Qi 24 0] [1,5,7,22,23,24] [5,11200])
 (.block 0 (.loop cF.l0)))
 (.seq (.ai [Qm 45 7,Qm 6 45] [6] [6,11200])
 (.ret)))))
def cF.m:Fn:={np:=3,body:=cF.b,res:=[.tmp 6]}
def cF.k(M:Nat→Option Body):Prop:=M 182=some (.code cF.m)∧fF.k M∧dx.k M∧gv.k M∧jc.k M
def dF.b:C:= .seq (.ai [Qv 4 0,Qv 7 3,Q 8 (.alloc [.int .i64 0,.str ⟨#[]⟩,.int .i64 0,.int .i64 0,.int .i64 0,.aL 4,.aL 1]),Qb 9 false] [1,2,4,7,8] [4,7,8,11305,11306])
 (.seq (.ai [QL 12 7 4,Q 13 (.call 155 [.t 12] [] [(5,11305),(6,11306)]),Q 10 (.alloc [.int .i64 0,.str ⟨#[]⟩,.int .i64 0,.int .i64 0,.int .i64 0,.aL 4,.aL 1]),Qs 7 10 13] [1,2,4,7,8,10] [4,7,8,10,11305,11306])
 (.seq (.ai [QL 14 7 4,Qm 15 1,Q 16 (.call 72 [.t 14,.t 15] [] []),Qm 11 16] [2,4,7,8,10,11] [4,7,8,10,11305,11306])
 (.seq (.seq (.ai [QL 17 7 4,Q 18 (.call 74 [.t 17] [] []),Q 19 (.not (.t 18)),Qm 20 19,Qg 21 (.mv (.t 11)) 20 false,Qg 22 (.bin .lss (.t 21) (kI 0)) 20 false,
   Q 23 (.pick (.t 20) (kB true) (.t 22)),Qm 24 23,Qg 25 (.mv (.t 2)) 24 false,Qg 26 (.call 148 [.t 25] [] []) 24 false,Qg 27 (.not (.t 26)) 24 false,
   Q 28 (.pick (.t 24) (kB true) (.t 27)),Qm 29 28,Qg 30 (.load true 2 (.t 7)) 29 false,Qg 31 (.call 164 [.t 30] [] []) 29 false,Qg 32 (.not (.t 31)) 29 false,
   Q 33 (.pick (.t 29) (kB true) (.t 32))] [2,4,7,8,10,11,33] [4,7,8,10,11305,11306])
 (.cond (.t 33) (.seq (.ai [QL 34 7 10,Qs 7 8 34,Qb 9 false] [8,9] [8,11305,11306])
 (.ret)) (.skip)))
 (.seq (.gV [Qf 35 5 10,Ql 36 35,Qm 37 11,Qf 38 5 4,Ql 39 38,Qm 40 11,Qa 41 4 39 40,Qf 42 2 41,Ql 43 42,Qm 44 2,QL 45 2 7,Q 46 (.call 182 [.t 43,.t 44,.t 45] [] []),Qa 47 4 36 37,
   Qf 48 2 47,Qs 1 48 46] [[],[0],[],[],[3],[],[3,4,5],[3,4,5,6],[3,4,5,6,7],[],[],[3,4,5,6,7,8,9,10],lr 12,lr 13,lr 14] [8,10] [8,10,11305,11306])
 (.seq (.ai [QL 49 7 10,Qs 7 8 49,Qb 9 true] [8,9] [8,11305,11306])
 (.ret))))))
def dF.m:Fn:={np:=4,body:=dF.b,res:=[.cell 8 true 7,.tmp 9]}
def dF.k(M:Nat→Option Body):Prop:=M 83=some (.code dF.m)∧cy.k M∧bC.k M∧fF.k M∧cm.k M∧gn.k M∧cF.k M
def gT.b:C:= .seq (.ai [Q 2 (.nil 3)] [0] [])
 (.seq (.ai [Q 3 (.bF 3 0 [.int .i64 0,.int .i64 0,.int .i64 0] []),Qm 4 0,Q 5 (.app 3 24 (.t 3) (.t 4)),Qm 2 5] [2] [2,3,5])
 (.ret))
def gT.m:Fn:={np:=1,body:=gT.b,res:=[.tmp 2]}
def gT.k(M:Nat→Option Body):Prop:=M 241=some (.code gT.m)
def fD.b:C:= .seq (.ai [Qv 1 0,Q 2 (.alloc [.int .i64 0,.int .i64 0,.aL 3,.str ⟨#[]⟩])] [1,2] [1,2,10500])
 (.seq (.ai [Qf 3 2 1,Ql 4 3,Q 5 (.call 241 [.t 4] [] [(0,10500)]),Qf 6 2 1,Qs 1 6 5] [1,2] [1,2,10500])
 (.seq (.ai [QL 7 4 1,Qs 4 2 7] [2] [2,10500])
 (.ret)))
def fD.m:Fn:={np:=1,body:=fD.b,res:=[.cell 2 true 4]}
def fD.k(M:Nat→Option Body):Prop:=M 238=some (.code fD.m)∧gT.k M
def bX.l0:C:= .seq (.seq (.ai [Qm 8 4,Qf 9 5 1,Ql 10 9,Q 11 (.len (.t 10)),Q 12 (.bin .lss (.t 8) (.t 11))] [1,2,3,4,12] [1,2,3,6,24,26,29])
 (.cond (.t 12) (.skip) (.exit 0)))
 (.seq (.block 1 (.gV [Qf 15 5 3,Ql 16 15,Qf 17 5 1,Ql 18 17,Qm 19 4,Qa 20 4 18 19,QL 21 4 20,Q 22 (.call 238 [.t 21] [] []),
   Q 23 (.bF 4 1 [.int .i64 0,.int .i64 0,.aL 3,.str ⟨#[]⟩] [(0,.t 22)]),Q 24 (.app 4 56 (.t 16) (.t 23)),Qf 25 5 3,Qs 1 25 24] [[],[0],[],[2],[],[2,3,4],[2,3,4,5],[2,3,4,5,6],[2,3,4,5,6,7],lr 9,lr 10,lr 11] [1,2,3,4] [1,2,3,6,24,26,29]))
 (.ai [Qm 13 4,Q 14 (.bin .add (.t 13) (kI 1)),Qm 4 14] [1,2,3,4] [1,2,3,6,24,26,29]))
def bX.b:C:= .seq (.ai [Qv 1 0,Q 2 (.alloc [.int .i64 0,.str ⟨#[]⟩,.int .i64 0,.int .i64 0,.int .i64 0,.aL 4,.aL 1])] [1,2] [1,2,6,24,26,29])
 (.seq (.ai [QL 5 7 1,Q 3 (.alloc [.int .i64 0,.str ⟨#[]⟩,.int .i64 0,.int .i64 0,.int .i64 0,.aL 4,.aL 1]),Qs 7 3 5] [1,2,3] [1,2,3,6,24,26,29])
 (.seq (.ai [Q 6 (.bF 4 0 [.int .i64 0,.int .i64 0,.aL 3,.str ⟨#[]⟩] []),Qf 7 5 3,Qs 1 7 6] [1,2,3] [1,2,3,6,24,26,29])
 (.seq (.seq (.ai [Qi 4 0] [1,2,3,4] [1,2,3,6,24,26,29])
 (.block 0 (.loop bX.l0)))
 (.seq (.ai [Q 26 (.bF 1 0 [.int .i64 0] []),Qf 27 6 1,Ql 28 27,Q 29 (.app 1 8 (.t 26) (.t 28)),Qf 30 6 3,Qs 1 30 29] [2,3] [2,3,6,24,26,29])
 (.seq (.ai [QL 31 7 3,Qs 7 2 31] [2] [2,6,24,26,29])
 (.ret))))))
def bX.m:Fn:={np:=1,body:=bX.b,res:=[.cell 2 true 7]}
def bX.k(M:Nat→Option Body):Prop:=M 180=some (.code bX.m)∧fD.k M
def fW.l0:C:= .seq (.seq (.ai [Qm 9 6,Q 10 (.bin .lss (.t 9) (kI 3))] [0,3,5,6,10] [3,8,24])
 (.cond (.t 10) (.skip) (.exit 0)))
 (.seq (.block 1 (.seq (.ai [Qi 7 0] [0,3,5,6,7] [3,8,24])
 (.seq (.seq (.ai [Qm 13 0,Qm 14 6,Q 15 (.ry .u64 (.t 14)),Q 16 (.bin .shr (.t 13) (.t 15)),Q 17 (.bin .rem (.t 16) (kI 2)),Q 18 (.bin .neq (.t 17) (kI 0))] [0,3,5,6,7,18] [3,8,24])
 (.cond (.t 18) (.ai [Qi 7 1] [0,3,5,6,7] [3,8,24]) (.skip)))
 (.ai [Qm 19 5,Qm 20 7,QL 21 2 3,Q 22 (.build [.int .i64 0,.int .i64 0,.int .i64 0] [(0,1,.t 20),(1,2,.t 21)]),
   Q 23 (.bF 3 1 [.int .i64 0,.int .i64 0,.int .i64 0] [(0,.t 22)]),Q 24 (.app 3 24 (.t 19) (.t 23)),Qm 5 24] [0,3,5,6] [3,8,24]))))
 (.ai [Qm 11 6,Q 12 (.bin .add (.t 11) (kI 1)),Qm 6 12] [0,3,5,6] [3,8,24]))
def fW.b:C:= .seq (.ai [Qv 3 1,Q 4 (.nil 3)] [0,3] [3])
 (.seq (.ai [Q 8 (.bF 3 0 [.int .i64 0,.int .i64 0,.int .i64 0] []),Qm 5 8] [0,3,5] [3,8,24])
 (.seq (.seq (.ai [Qi 6 0] [0,3,5,6] [3,8,24])
 (.block 0 (.loop fW.l0)))
 (.seq (.ai [Qm 25 5,Qm 4 25] [4] [4,8,24])
 (.ret))))
def fW.m:Fn:={np:=2,body:=fW.b,res:=[.tmp 4]}
def fW.k(M:Nat→Option Body):Prop:=M 181=some (.code fW.m)
def dS.b:C:= .seq (.ai [Qv 5 0,Qv 9 4,Q 10 (.alloc [.int .i64 0,.str ⟨#[]⟩,.int .i64 0,.int .i64 0,.int .i64 0,.aL 4,.aL 1]),Qb 11 false] [1,2,3,5,9,10] [5,9,10,47,11405,11406,15705,15706])
 (.seq (.ai [QL 13 7 5,Q 14 (.call 180 [.t 13] [] [(5,11405),(6,11406)]),Q 12 (.alloc [.int .i64 0,.str ⟨#[]⟩,.int .i64 0,.int .i64 0,.int .i64 0,.aL 4,.aL 1]),Qs 7 12 14] [1,2,3,5,9,10,12] [5,9,10,12,47,11405,11406,15705,15706])
 (.seq (.seq (.ai [QL 15 7 5,Q 16 (.call 88 [.t 15] [] []),Q 17 (.not (.t 16)),Qm 18 17,Qg 19 (.load true 7 (.t 5)) 18 false,Qg 20 (.mv (.t 1)) 18 false,
   Qg 21 (.call 91 [.t 19,.t 20] [] []) 18 false,Qg 22 (.bin .geq (.t 21) (kI 0)) 18 false,Q 23 (.pick (.t 18) (kB true) (.t 22)),Qm 24 23,Qg 25 (.bN 6 (.t 5)) 24 false,
   Qg 26 (.load false 1 (.t 25)) 24 false,Qg 27 (.mv (.t 1)) 24 false,Qg 28 (.call 132 [.t 26,.t 27] [] []) 24 false,Q 29 (.pick (.t 24) (kB true) (.t 28)),Qm 30 29,
   Qg 31 (.mv (.t 2)) 30 false,Qg 32 (.call 98 [.t 31,kI 0,kI 7] [] []) 30 false,Qg 33 (.not (.t 32)) 30 false,Q 34 (.pick (.t 30) (kB true) (.t 33))] [1,2,3,5,9,10,12,34] [5,9,10,12,47,11405,11406,15705,15706])
 (.cond (.t 34) (.seq (.ai [QL 35 7 12,Qs 7 10 35,Qb 11 false] [10,11] [10,47,11405,11406,15705,15706])
 (.ret)) (.skip)))
 (.seq (.gV [Qf 36 5 12,Ql 37 36,Qm 38 1,Qf 39 4 5,Ql 40 39,Qm 41 2,QL 42 2 9,Q 43 (.call 181 [.t 41,.t 42] [] []),Qm 44 3,
   Q 45 (.build [.int .i64 0,.int .i64 0,.aL 3,.str ⟨#[]⟩] [(0,1,.t 38),(1,1,.t 40),(2,1,.t 43),(3,1,.t 44)]),
   Q 46 (.bF 4 1 [.int .i64 0,.int .i64 0,.aL 3,.str ⟨#[]⟩] [(0,.t 45)]),Q 47 (.app 4 56 (.t 37) (.t 46)),Qf 48 5 12,Qs 1 48 47] [[],[0],[],[],[3],[],[],[5,6],[],[2,3,4,5,6,7,8],[2,3,4,5,6,7,8,9],lr 11,lr 12,lr 13] [5,10,12] [5,10,12,47,11405,11406,15705,15706])
 (.seq (.ai [Qf 49 4 5,Ql 50 49,Q 51 (.bin .add (.t 50) (kI 1)),Qf 52 4 12,Qs 1 52 51] [5,10,12] [5,10,12,47,11405,11406,15705,15706])
 (.seq (.seq (.ai [QL 53 7 12,Q 54 (.call 88 [.t 53] [] []),Q 55 (.not (.t 54))] [5,10,12,55] [5,10,12,47,11405,11406,15705,15706])
 (.cond (.t 55) (.seq (.ai [QL 56 7 5,Q 57 (.call 180 [.t 56] [] [(5,15705),(6,15706)]),Qs 7 10 57,Qb 11 false] [10,11] [10,47,11405,11406,15705,15706])
 (.ret)) (.skip)))
 (.seq (.ai [QL 58 7 12,Qs 7 10 58,Qb 11 true] [10,11] [10,47,11405,11406,15705,15706])
 (.ret)))))))
def dS.m:Fn:={np:=5,body:=dS.b,res:=[.cell 10 true 7,.tmp 11]}
def dS.k(M:Nat→Option Body):Prop:=M 81=some (.code dS.m)∧br.k M∧bI.k M∧bE.k M∧bf.k M∧bX.k M∧fW.k M
def hQ.b:C:= .seq (.ai [Qv 2 0,Qv 3 1,Qb 4 false] [2,3] [2,3])
 (.seq (.seq (.ai [Qf 5 0 2,Ql 6 5,Qf 7 0 3,Ql 8 7,Q 9 (.bin .neq (.t 6) (.t 8))] [2,3,9] [2,3])
 (.cond (.t 9) (.seq (.ai [Qf 10 0 2,Ql 11 10,Qf 12 0 3,Ql 13 12,Q 14 (.bin .gtr (.t 11) (.t 13)),Qm 4 14] [4] [])
 (.ret)) (.skip)))
 (.seq (.ai [Qf 15 1 2,Ql 16 15,Qf 17 1 3,Ql 18 17,Q 19 (.bin .gtr (.t 16) (.t 18)),Qm 4 19] [4] [])
 (.ret)))
def hQ.m:Fn:={np:=2,body:=hQ.b,res:=[.tmp 4]}
def hQ.k(M:Nat→Option Body):Prop:=M 277=some (.code hQ.m)
def iY.b:C:= .seq (.ai [Qv 3 0,Qv 5 2,Q 6 (.alloc [.int .i64 0,.int .i64 0,.int .i64 0])] [1,3,5,6] [3,5,6])
 (.seq (.ai [Qm 8 1,QL 9 2 5,Q 10 (.build [.int .i64 0,.int .i64 0,.int .i64 0] [(0,1,.t 8),(1,2,.t 9)]),Q 7 (.alloc [.int .i64 0,.int .i64 0,.int .i64 0]),Qs 3 7 10] [3,5,6,7] [3,5,6,7])
 (.seq (.seq (.ai [QL 11 2 5,Qf 12 1 3,QL 13 2 12,Q 14 (.call 277 [.t 11,.t 13] [] []),Q 15 (.not (.t 14)),Qm 16 15,Qg 17 (.load true 3 (.t 7)) 16 false,
   Qg 18 (.call 276 [.t 17] [] []) 16 false,Qg 19 (.not (.t 18)) 16 false,Q 20 (.pick (.t 16) (kB true) (.t 19))] [3,6,7,20] [3,6,7])
 (.cond (.t 20) (.seq (.ai [QL 21 3 3,Qs 3 6 21] [6] [6])
 (.ret)) (.skip)))
 (.seq (.ai [QL 22 3 7,Qs 3 6 22] [6] [6])
 (.ret))))
def iY.m:Fn:={np:=3,body:=iY.b,res:=[.cell 6 true 3]}
def iY.k(M:Nat→Option Body):Prop:=M 243=some (.code iY.m)∧iX.k M∧hQ.k M
def cE.l0:C:= .seq (.seq (.ai [Qm 21 8,Qm 22 7,Q 23 (.len (.t 22)),Q 24 (.bin .lss (.t 21) (.t 23))] [1,5,7,8,24] [5,11100])
 (.cond (.t 24) (.skip) (.exit 0)))
 (.seq (.block 1 (.seq (.ai [Qm 27 1,Qm 28 8,Q 29 (.ry .u64 (.t 28)),Q 30 (.bin .shr (.t 27) (.t 29)),Q 31 (.bin .rem (.t 30) (kI 2)),Qm 9 31] [1,5,7,8,9] [5,11100])
 (.seq (.ai [Qm 32 7,Qm 33 8,Qa 34 3 32 33,Qf 35 0 34,Ql 36 35,Qm 37 9,Q 38 (.bin .neq (.t 36) (.t 37))] [1,5,7,8,9,38] [5,11100])
 (.cond (.t 38) (.gV [Qm 39 7,Qm 40 8,Qm 41 7,Qm 42 8,Qa 43 3 41 42,QL 44 3 43,Qm 45 9,QL 46 2 5,Q 47 (.call 243 [.t 44,.t 45,.t 46] [] []),Qa 48 3 39 40,Qs 3 48 47] [[],[],[],[],[2,3],[2,3,4],[],[],[2,3,4,5,6,7],lr 9,lr 10] [1,5,7,8] [5,11100]) (.skip)))))
 (.ai [Qm 25 8,Q 26 (.bin .add (.t 25) (kI 1)),Qm 8 26] [1,5,7,8] [5,11100]))
def cE.b:C:= .seq (.ai [Qv 5 2,Q 6 (.nil 3)] [0,1,5] [5])
 (.seq (.ai [Qm 10 0,Q 11 (.call 241 [.t 10] [] [(0,11100)]),Qm 7 11] [0,1,5,7] [5,11100])
 (.seq (.seq (.ai [Qm 12 0,Q 13 (.call 242 [.t 12] [] []),Q 14 (.not (.t 13)),Qm 15 14,Qg 16 (.mv (.t 1)) 15 false,Qg 17 (.call 98 [.t 16,kI 0,kI 7] [] []) 15 false,
   Qg 18 (.not (.t 17)) 15 false,Q 19 (.pick (.t 15) (kB true) (.t 18))] [1,5,7,19] [5,11100])
 (.cond (.t 19) (.seq (.ai [Qm 20 7,Qm 6 20] [6] [6,11100])
 (.ret)) (.skip)))
 (.seq (.seq (.ai [Qi 8 0] [1,5,7,8] [5,11100])
 (.block 0 (.loop cE.l0)))
 (.seq (.ai [Qm 49 7,Qm 6 49] [6] [6,11100])
 (.ret)))))
def cE.m:Fn:={np:=3,body:=cE.b,res:=[.tmp 6]}
def cE.k(M:Nat→Option Body):Prop:=M 184=some (.code cE.m)∧bE.k M∧gT.k M∧dw.k M∧iY.k M
def dD.b:C:= .seq (.ai [Qv 4 0,Qv 7 3,Q 8 (.alloc [.int .i64 0,.str ⟨#[]⟩,.int .i64 0,.int .i64 0,.int .i64 0,.aL 4,.aL 1]),Qb 9 false] [1,2,4,7,8] [4,7,8,11305,11306])
 (.seq (.ai [QL 12 7 4,Q 13 (.call 180 [.t 12] [] [(5,11305),(6,11306)]),Q 10 (.alloc [.int .i64 0,.str ⟨#[]⟩,.int .i64 0,.int .i64 0,.int .i64 0,.aL 4,.aL 1]),Qs 7 10 13] [1,2,4,7,8,10] [4,7,8,10,11305,11306])
 (.seq (.ai [QL 14 7 4,Qm 15 1,Q 16 (.call 91 [.t 14,.t 15] [] []),Qm 11 16] [2,4,7,8,10,11] [4,7,8,10,11305,11306])
 (.seq (.seq (.ai [QL 17 7 4,Q 18 (.call 88 [.t 17] [] []),Q 19 (.not (.t 18)),Qm 20 19,Qg 21 (.mv (.t 11)) 20 false,Qg 22 (.bin .lss (.t 21) (kI 0)) 20 false,
   Q 23 (.pick (.t 20) (kB true) (.t 22)),Qm 24 23,Qg 25 (.mv (.t 2)) 24 false,Qg 26 (.call 98 [.t 25,kI 0,kI 7] [] []) 24 false,Qg 27 (.not (.t 26)) 24 false,
   Q 28 (.pick (.t 24) (kB true) (.t 27)),Qm 29 28,Qg 30 (.load true 2 (.t 7)) 29 false,Qg 31 (.call 183 [.t 30] [] []) 29 false,Qg 32 (.not (.t 31)) 29 false,
   Q 33 (.pick (.t 29) (kB true) (.t 32))] [2,4,7,8,10,11,33] [4,7,8,10,11305,11306])
 (.cond (.t 33) (.seq (.ai [QL 34 7 10,Qs 7 8 34,Qb 9 false] [8,9] [8,11305,11306])
 (.ret)) (.skip)))
 (.seq (.gV [Qf 35 5 10,Ql 36 35,Qm 37 11,Qf 38 5 4,Ql 39 38,Qm 40 11,Qa 41 4 39 40,Qf 42 2 41,Ql 43 42,Qm 44 2,QL 45 2 7,Q 46 (.call 184 [.t 43,.t 44,.t 45] [] []),Qa 47 4 36 37,
   Qf 48 2 47,Qs 1 48 46] [[],[0],[],[],[3],[],[3,4,5],[3,4,5,6],[3,4,5,6,7],[],[],[3,4,5,6,7,8,9,10],lr 12,lr 13,lr 14] [8,10] [8,10,11305,11306])
 (.seq (.ai [QL 49 7 10,Qs 7 8 49,Qb 9 true] [8,9] [8,11305,11306])
 (.ret))))))
def dD.m:Fn:={np:=4,body:=dD.b,res:=[.cell 8 true 7,.tmp 9]}
def dD.k(M:Nat→Option Body):Prop:=M 84=some (.code dD.m)∧br.k M∧bI.k M∧bE.k M∧bX.k M∧gi.k M∧cE.k M
def de.b:C:= .seq (.ai [Qv 2 0,Q 4 (.alloc [.int .i64 0,.str ⟨#[]⟩,.int .i64 0,.int .i64 0,.int .i64 0,.aL 4,.aL 1]),Qb 5 false] [1,2,4] [2,4,27,32,38,10905,10906,14300])
 (.seq (.ai [QL 8 7 2,Q 9 (.call 180 [.t 8] [] [(5,10905),(6,10906)]),Q 6 (.alloc [.int .i64 0,.str ⟨#[]⟩,.int .i64 0,.int .i64 0,.int .i64 0,.aL 4,.aL 1]),Qs 7 6 9] [1,2,4,6] [2,4,6,27,32,38,10905,10906,14300])
 (.seq (.ai [QL 10 7 2,Qm 11 1,Q 12 (.call 91 [.t 10,.t 11] [] []),Qm 7 12] [1,2,4,6,7] [2,4,6,27,32,38,10905,10906,14300])
 (.seq (.seq (.ai [QL 13 7 2,Q 14 (.call 88 [.t 13] [] []),Q 15 (.not (.t 14)),Qm 16 15,Qg 17 (.mv (.t 7)) 16 false,Qg 18 (.bin .lss (.t 17) (kI 0)) 16 false,
   Q 19 (.pick (.t 16) (kB true) (.t 18)),Qm 20 19,Qg 21 (.bN 6 (.t 2)) 20 false,Qg 22 (.load false 1 (.t 21)) 20 false,Qg 23 (.len (.t 22)) 20 false,
   Qg 24 (.bin .geq (.t 23) (kI 40)) 20 false,Q 25 (.pick (.t 20) (kB true) (.t 24))] [1,2,4,6,7,25] [2,4,6,27,32,38,10905,10906,14300])
 (.cond (.t 25) (.seq (.ai [QL 26 7 6,Qs 7 4 26,Qb 5 false] [4,5] [4,27,32,38,10905,10906,14300])
 (.ret)) (.skip)))
 (.seq (.gV [Q 27 (.bF 4 0 [.int .i64 0,.int .i64 0,.aL 3,.str ⟨#[]⟩] []),Qf 28 5 6,Ql 29 28,Qm 30 7,Q 31 (.wL 4 (.t 29) none (some (.t 30)) none),
   Q 32 (.app 4 56 (.t 27) (.t 31)),Qf 33 5 6,Ql 34 33,Qm 35 7,Q 36 (.bin .add (.t 35) (kI 1)),Q 37 (.wL 4 (.t 34) (some (.t 36)) none none),Q 38 (.app 4 56 (.t 32) (.t 37)),
   Qf 39 5 6,Qs 1 39 38] [[],[],[1],[],[1,2,3],lr 5,[],[6],[],[8],[6,7,8,9],lr 11,lr 12,lr 13] [1,2,4,6] [2,4,6,27,32,38,10905,10906,14300])
 (.seq (.ai [Qf 40 6 2,Ql 41 40,Qm 42 1,Q 43 (.call 133 [.t 41,.t 42] [] [(0,14300)]),Qf 44 6 6,Qs 1 44 43] [4,6] [4,6,27,32,38,10905,10906,14300])
 (.seq (.ai [QL 45 7 6,Qs 7 4 45,Qb 5 true] [4,5] [4,27,32,38,10905,10906,14300])
 (.ret)))))))
def de.m:Fn:={np:=2,body:=de.b,res:=[.cell 4 true 7,.tmp 5]}
def de.k(M:Nat→Option Body):Prop:=M 86=some (.code de.m)∧br.k M∧bI.k M∧bU.k M∧bX.k M
def dk.l0:C:= .seq (.seq (.ai [Qm 6 5,Qf 7 2 2,Ql 8 7,Q 9 (.len (.t 8)),Q 10 (.bin .lss (.t 6) (.t 9))] [1,2,5,10] [2])
 (.cond (.t 10) (.skip) (.exit 0)))
 (.seq (.block 1 (.seq (.ai [Qf 13 2 2,Ql 14 13,Qm 15 5,Qa 16 7 14 15,Qf 17 0 16,Ql 18 17,Qm 19 1,Q 20 (.bin .eql (.t 18) (.t 19))] [1,2,5,20] [2])
 (.cond (.t 20) (.seq (.ai [Qm 21 5,Qm 4 21] [4] [])
 (.ret)) (.skip))))
 (.ai [Qm 11 5,Q 12 (.bin .add (.t 11) (kI 1)),Qm 5 12] [1,2,5] [2]))
def dk.b:C:= .seq (.ai [Qv 2 0,Qi 4 0] [1,2] [2])
 (.seq (.seq (.ai [Qi 5 0] [1,2,5] [2])
 (.block 0 (.loop dk.l0)))
 (.seq (.ai [Qi 4 (-1)] [4] [])
 (.ret)))
def dk.m:Fn:={np:=2,body:=dk.b,res:=[.tmp 4]}
def dk.k(M:Nat→Option Body):Prop:=M 196=some (.code dk.m)
def eD.l0:C:= .seq (.seq (.ai [Qm 16 5,Qf 17 2 2,Ql 18 17,Q 19 (.len (.t 18)),Q 20 (.bin .lss (.t 16) (.t 19))] [1,2,5,20] [2])
 (.cond (.t 20) (.skip) (.exit 0)))
 (.seq (.block 1 (.seq (.ai [Qf 23 2 2,Ql 24 23,Qm 25 5,Qa 26 7 24 25,QL 27 7 26,Qm 28 1,Q 29 (.call 91 [.t 27,.t 28] [] []),Q 30 (.bin .geq (.t 29) (kI 0)),Qm 31 30,Qg 32 (.bN 2 (.t 2)) 31 false,
   Qg 33 (.load false 1 (.t 32)) 31 false,Qg 34 (.mv (.t 5)) 31 false,Qg 35 (.kG 7 (.t 33) (.t 34)) 31 false,Qg 36 (.bN 6 (.t 35)) 31 false,
   Qg 37 (.load false 1 (.t 36)) 31 false,Qg 38 (.mv (.t 1)) 31 false,Qg 39 (.call 132 [.t 37,.t 38] [] []) 31 false,Q 40 (.pick (.t 31) (kB true) (.t 39))] [1,2,5,40] [2])
 (.cond (.t 40) (.seq (.ai [Qb 4 true] [4] [])
 (.ret)) (.skip))))
 (.ai [Qm 21 5,Q 22 (.bin .add (.t 21) (kI 1)),Qm 5 22] [1,2,5] [2]))
def eD.b:C:= .seq (.ai [Qv 2 0,Qb 4 false] [1,2] [2])
 (.seq (.seq (.ai [QL 6 4 2,Qm 7 1,Q 8 (.call 196 [.t 6,.t 7] [] []),Q 9 (.bin .geq (.t 8) (kI 0)),Qm 10 9,Qg 11 (.bN 3 (.t 2)) 10 false,Qg 12 (.load false 1 (.t 11)) 10 false,
   Qg 13 (.mv (.t 1)) 10 false,Qg 14 (.call 132 [.t 12,.t 13] [] []) 10 false,Q 15 (.pick (.t 10) (kB true) (.t 14))] [1,2,15] [2])
 (.cond (.t 15) (.seq (.ai [Qb 4 true] [4] [])
 (.ret)) (.skip)))
 (.seq (.seq (.ai [Qi 5 0] [1,2,5] [2])
 (.block 0 (.loop eD.l0)))
 (.seq (.ai [Qb 4 false] [4] [])
 (.ret))))
def eD.m:Fn:={np:=2,body:=eD.b,res:=[.tmp 4]}
def eD.k(M:Nat→Option Body):Prop:=M 300=some (.code eD.m)∧bI.k M∧bf.k M∧dk.k M
def dH.b:C:= .seq (.ai [Qv 1 0,Q 2 (.alloc [.int .i64 0,.int .i64 0])] [1,2] [1,2])
 (.seq (.ai [Qf 3 1 1,Ql 4 3,Q 5 (.bin .add (.t 4) (kI 1)),Qf 6 0 1,Ql 7 6,Q 8 (.build [.int .i64 0,.int .i64 0] [(0,1,.t 5),(1,1,.t 7)]),Qs 2 2 8] [2] [2])
 (.ret))
def dH.m:Fn:={np:=1,body:=dH.b,res:=[.cell 2 true 2]}
def dH.k(M:Nat→Option Body):Prop:=M 301=some (.code dH.m)
def b5.l0:C:= .seq (.seq (.ai [Qm 8 4,Qf 9 2 1,Ql 10 9,Q 11 (.len (.t 10)),Q 12 (.bin .lss (.t 8) (.t 11))] [1,2,3,4,12] [1,2,3,6,24,26,29])
 (.cond (.t 12) (.skip) (.exit 0)))
 (.seq (.block 1 (.gV [Qf 15 2 3,Ql 16 15,Qf 17 2 1,Ql 18 17,Qm 19 4,Qa 20 7 18 19,QL 21 7 20,Q 22 (.call 180 [.t 21] [] []),
   Q 23 (.bF 7 1 [.int .i64 0,.str ⟨#[]⟩,.int .i64 0,.int .i64 0,.int .i64 0,.aL 4,.aL 1] [(0,.t 22)]),Q 24 (.app 7 96 (.t 16) (.t 23)),Qf 25 2 3,Qs 1 25 24] [[],[0],[],[2],[],[2,3,4],[2,3,4,5],[2,3,4,5,6],[2,3,4,5,6,7],lr 9,lr 10,lr 11] [1,2,3,4] [1,2,3,6,24,26,29]))
 (.ai [Qm 13 4,Q 14 (.bin .add (.t 13) (kI 1)),Qm 4 14] [1,2,3,4] [1,2,3,6,24,26,29]))
def b5.b:C:= .seq (.ai [Qv 1 0,Q 2 (.alloc [.int .i64 0,.int .i64 0,.aL 7,.aL 1])] [1,2] [1,2,6,24,26,29])
 (.seq (.ai [QL 5 4 1,Q 3 (.alloc [.int .i64 0,.int .i64 0,.aL 7,.aL 1]),Qs 4 3 5] [1,2,3] [1,2,3,6,24,26,29])
 (.seq (.ai [Q 6 (.bF 7 0 [.int .i64 0,.str ⟨#[]⟩,.int .i64 0,.int .i64 0,.int .i64 0,.aL 4,.aL 1] []),Qf 7 2 3,Qs 1 7 6] [1,2,3] [1,2,3,6,24,26,29])
 (.seq (.seq (.ai [Qi 4 0] [1,2,3,4] [1,2,3,6,24,26,29])
 (.block 0 (.loop b5.l0)))
 (.seq (.ai [Q 26 (.bF 1 0 [.int .i64 0] []),Qf 27 3 1,Ql 28 27,Q 29 (.app 1 8 (.t 26) (.t 28)),Qf 30 3 3,Qs 1 30 29] [2,3] [2,3,6,24,26,29])
 (.seq (.ai [QL 31 4 3,Qs 4 2 31] [2] [2,6,24,26,29])
 (.ret))))))
def b5.m:Fn:={np:=1,body:=b5.b,res:=[.cell 2 true 4]}
def b5.k(M:Nat→Option Body):Prop:=M 219=some (.code b5.m)∧bX.k M
def bY.l0:C:= .seq (.seq (.ai [Qm 37 10,Qf 38 2 3,Ql 39 38,Q 40 (.len (.t 39)),Q 41 (.bin .lss (.t 37) (.t 40))] [1,3,6,8,9,10,41] [3,6,8,9,30,61,67,93,12702,12703,12902,12903,20302,20303])
 (.cond (.t 41) (.skip) (.exit 0)))
 (.seq (.block 1 (.seq (.ai [Qf 44 2 3,Ql 45 44,Qm 46 10,Qa 47 7 45 46,Qf 48 0 47,Ql 49 48,Qm 50 1,Q 51 (.bin .lss (.t 49) (.t 50))] [1,3,6,8,9,10,51] [3,6,8,9,30,61,67,93,12702,12703,12902,12903,20302,20303])
 (.cond (.t 51) (.gV [Qf 52 2 8,Ql 53 52,Qf 54 2 3,Ql 55 54,Qm 56 10,Qa 57 7 55 56,QL 58 7 57,Q 59 (.call 180 [.t 58] [] []),
   Q 60 (.bF 7 1 [.int .i64 0,.str ⟨#[]⟩,.int .i64 0,.int .i64 0,.int .i64 0,.aL 4,.aL 1] [(0,.t 59)]),Q 61 (.app 7 96 (.t 53) (.t 60)),Qf 62 2 8,Qs 1 62 61] [[],[0],[],[2],[],[2,3,4],[2,3,4,5],[2,3,4,5,6],[2,3,4,5,6,7],lr 9,lr 10,lr 11] [1,3,6,8,9,10] [3,6,8,9,30,61,67,93,12702,12703,12902,12903,20302,20303]) (.skip))))
 (.ai [Qm 42 10,Q 43 (.bin .add (.t 42) (kI 1)),Qm 10 43] [1,3,6,8,9,10] [3,6,8,9,30,61,67,93,12702,12703,12902,12903,20302,20303]))
def bY.l1:C:= .seq (.seq (.ai [Qm 69 11,Qf 70 2 3,Ql 71 70,Q 72 (.len (.t 71)),Q 73 (.bin .lss (.t 69) (.t 72))] [1,3,6,8,11,73] [3,6,8,30,61,67,93,12702,12703,12902,12903,20302,20303])
 (.cond (.t 73) (.skip) (.exit 2)))
 (.seq (.block 3 (.seq (.ai [Qf 76 2 3,Ql 77 76,Qm 78 11,Qa 79 7 77 78,Qf 80 0 79,Ql 81 80,Qm 82 1,Q 83 (.bin .gtr (.t 81) (.t 82))] [1,3,6,8,11,83] [3,6,8,30,61,67,93,12702,12703,12902,12903,20302,20303])
 (.cond (.t 83) (.gV [Qf 84 2 8,Ql 85 84,Qf 86 2 3,Ql 87 86,Qm 88 11,Qa 89 7 87 88,QL 90 7 89,Q 91 (.call 180 [.t 90] [] []),
   Q 92 (.bF 7 1 [.int .i64 0,.str ⟨#[]⟩,.int .i64 0,.int .i64 0,.int .i64 0,.aL 4,.aL 1] [(0,.t 91)]),Q 93 (.app 7 96 (.t 85) (.t 92)),Qf 94 2 8,Qs 1 94 93] [[],[0],[],[2],[],[2,3,4],[2,3,4,5],[2,3,4,5,6],[2,3,4,5,6,7],lr 9,lr 10,lr 11] [1,3,6,8,11] [3,6,8,30,61,67,93,12702,12703,12902,12903,20302,20303]) (.skip))))
 (.ai [Qm 74 11,Q 75 (.bin .add (.t 74) (kI 1)),Qm 11 75] [1,3,6,8,11] [3,6,8,30,61,67,93,12702,12703,12902,12903,20302,20303]))
def bY.b:C:= .seq (.ai [Qv 3 0,Q 6 (.alloc [.int .i64 0,.int .i64 0,.aL 7,.aL 1]),Qb 7 false] [1,2,3,6] [3,6,30,61,67,93,12702,12703,12902,12903,20302,20303])
 (.seq (.seq (.ai [QL 12 4 3,Q 13 (.call 149 [.t 12] [] []),Q 14 (.not (.t 13)),Qm 15 14,Qg 16 (.load true 4 (.t 3)) 15 false,Qg 17 (.mv (.t 1)) 15 false,
   Qg 18 (.call 300 [.t 16,.t 17] [] []) 15 false,Q 19 (.pick (.t 15) (kB true) (.t 18)),Qm 20 19,Qg 21 (.load true 4 (.t 3)) 20 false,Qg 22 (.mv (.t 2)) 20 false,
   Qg 23 (.call 226 [.t 21,.t 22] [] []) 20 false,Qg 24 (.bin .geq (.t 23) (kI 0)) 20 false,Q 25 (.pick (.t 20) (kB true) (.t 24))] [1,2,3,6,25] [3,6,30,61,67,93,12702,12703,12902,12903,20302,20303])
 (.cond (.t 25) (.seq (.ai [QL 26 4 3,Q 27 (.call 219 [.t 26] [] [(2,12702),(3,12703)]),Qs 4 6 27,Qb 7 false] [6,7] [6,30,61,67,93,12702,12703,12902,12903,20302,20303])
 (.ret)) (.skip)))
 (.seq (.ai [QL 28 4 3,Q 29 (.call 219 [.t 28] [] [(2,12902),(3,12903)]),Q 8 (.alloc [.int .i64 0,.int .i64 0,.aL 7,.aL 1]),Qs 4 8 29] [1,2,3,6,8] [3,6,8,30,61,67,93,12702,12703,12902,12903,20302,20303])
 (.seq (.ai [Q 30 (.bF 7 0 [.int .i64 0,.str ⟨#[]⟩,.int .i64 0,.int .i64 0,.int .i64 0,.aL 4,.aL 1] []),Qf 31 2 8,Qs 1 31 30] [1,2,3,6,8] [3,6,8,30,61,67,93,12702,12703,12902,12903,20302,20303])
 (.seq (.ai [Qm 32 1,Qm 33 2,QL 34 4 3,Q 35 (.call 301 [.t 34] [] []),
   Q 36 (.build [.int .i64 0,.str ⟨#[]⟩,.int .i64 0,.int .i64 0,.int .i64 0,.aL 4,.aL 1] [(0,1,.t 32),(1,1,.t 33),(2,2,.t 35),(4,1,kI 1)]),
   Q 9 (.alloc [.int .i64 0,.str ⟨#[]⟩,.int .i64 0,.int .i64 0,.int .i64 0,.aL 4,.aL 1]),Qs 7 9 36] [1,3,6,8,9] [3,6,8,9,30,61,67,93,12702,12703,12902,12903,20302,20303])
 (.seq (.seq (.ai [Qi 10 0] [1,3,6,8,9,10] [3,6,8,9,30,61,67,93,12702,12703,12902,12903,20302,20303])
 (.block 0 (.loop bY.l0)))
 (.seq (.ai [Qf 63 2 8,Ql 64 63,QL 65 7 9,Q 66 (.bF 7 1 [.int .i64 0,.str ⟨#[]⟩,.int .i64 0,.int .i64 0,.int .i64 0,.aL 4,.aL 1] [(0,.t 65)]),Q 67 (.app 7 96 (.t 64) (.t 66)),
   Qf 68 2 8,Qs 1 68 67] [1,3,6,8] [3,6,8,30,61,67,93,12702,12703,12902,12903,20302,20303])
 (.seq (.seq (.ai [Qi 11 0] [1,3,6,8,11] [3,6,8,30,61,67,93,12702,12703,12902,12903,20302,20303])
 (.block 2 (.loop bY.l1)))
 (.seq (.ai [Qf 95 1 3,Ql 96 95,Q 97 (.bin .add (.t 96) (kI 1)),Qf 98 1 8,Qs 1 98 97] [3,6,8] [3,6,8,30,61,67,93,12702,12703,12902,12903,20302,20303])
 (.seq (.seq (.ai [QL 99 4 8,Q 100 (.call 149 [.t 99] [] []),Q 101 (.not (.t 100))] [3,6,8,101] [3,6,8,30,61,67,93,12702,12703,12902,12903,20302,20303])
 (.cond (.t 101) (.seq (.ai [QL 102 4 3,Q 103 (.call 219 [.t 102] [] [(2,20302),(3,20303)]),Qs 4 6 103,Qb 7 false] [6,7] [6,30,61,67,93,12702,12703,12902,12903,20302,20303])
 (.ret)) (.skip)))
 (.seq (.ai [QL 104 4 8,Qs 4 6 104,Qb 7 true] [6,7] [6,30,61,67,93,12702,12703,12902,12903,20302,20303])
 (.ret)))))))))))
def bY.m:Fn:={np:=3,body:=bY.b,res:=[.cell 6 true 4,.tmp 7]}
def bY.k(M:Nat→Option Body):Prop:=M 278=some (.code bY.m)∧aJ.k M∧bX.k M∧b5.k M∧cv.k M∧eD.k M∧dH.k M
def cV.b:C:= .seq (.ai [Qv 3 0,Q 6 (.alloc [.int .i64 0,.int .i64 0,.aL 7,.aL 1]),Qb 7 false] [1,2,3,6] [3,6,11102,11103,15002,15003])
 (.seq (.ai [QL 10 4 3,Q 11 (.call 219 [.t 10] [] [(2,11102),(3,11103)]),Q 8 (.alloc [.int .i64 0,.int .i64 0,.aL 7,.aL 1]),Qs 4 8 11] [1,2,3,6,8] [3,6,8,11102,11103,15002,15003])
 (.seq (.ai [QL 12 4 3,Qm 13 1,Q 14 (.call 196 [.t 12,.t 13] [] []),Qm 9 14] [2,3,6,8,9] [3,6,8,11102,11103,15002,15003])
 (.seq (.seq (.ai [QL 15 4 3,Q 16 (.call 149 [.t 15] [] []),Q 17 (.not (.t 16)),Qm 18 17,Qg 19 (.mv (.t 9)) 18 false,Qg 20 (.bin .lss (.t 19) (kI 0)) 18 false,
   Q 21 (.pick (.t 18) (kB true) (.t 20)),Qm 22 21,Qg 23 (.load true 4 (.t 3)) 22 false,Qg 24 (.mv (.t 2)) 22 false,Qg 25 (.call 226 [.t 23,.t 24] [] []) 22 false,
   Qg 26 (.bin .geq (.t 25) (kI 0)) 22 false,Q 27 (.pick (.t 22) (kB true) (.t 26))] [2,3,6,8,9,27] [3,6,8,11102,11103,15002,15003])
 (.cond (.t 27) (.seq (.ai [QL 28 4 8,Qs 4 6 28,Qb 7 false] [6,7] [6,11102,11103,15002,15003])
 (.ret)) (.skip)))
 (.seq (.ai [Qf 29 2 8,Ql 30 29,Qm 31 9,Qm 32 2,Qa 33 7 30 31,Qf 34 1 33,Qs 1 34 32] [3,6,8,9] [3,6,8,11102,11103,15002,15003])
 (.seq (.gV [Qf 35 2 8,Ql 36 35,Qm 37 9,QL 38 4 3,Q 39 (.call 301 [.t 38] [] []),Qa 40 7 36 37,Qf 41 2 40,Qs 2 41 39] [[],[0],[],[],[3],lr 5,lr 6,lr 7] [3,6,8] [3,6,8,11102,11103,15002,15003])
 (.seq (.ai [Qf 42 1 3,Ql 43 42,Q 44 (.bin .add (.t 43) (kI 1)),Qf 45 1 8,Qs 1 45 44] [3,6,8] [3,6,8,11102,11103,15002,15003])
 (.seq (.seq (.ai [QL 46 4 8,Q 47 (.call 149 [.t 46] [] []),Q 48 (.not (.t 47))] [3,6,8,48] [3,6,8,11102,11103,15002,15003])
 (.cond (.t 48) (.seq (.ai [QL 49 4 3,Q 50 (.call 219 [.t 49] [] [(2,15002),(3,15003)]),Qs 4 6 50,Qb 7 false] [6,7] [6,11102,11103,15002,15003])
 (.ret)) (.skip)))
 (.seq (.ai [QL 51 4 8,Qs 4 6 51,Qb 7 true] [6,7] [6,11102,11103,15002,15003])
 (.ret)))))))))
def cV.m:Fn:={np:=3,body:=cV.b,res:=[.cell 6 true 4,.tmp 7]}
def cV.k(M:Nat→Option Body):Prop:=M 282=some (.code cV.m)∧aJ.k M∧dk.k M∧b5.k M∧cv.k M∧dH.k M
def eY.b:C:= .seq (.ai [Qv 2 0,Q 4 (.alloc [.int .i64 0,.int .i64 0,.aL 7,.aL 1]),Qb 5 false] [1,2,4] [2,4,27,32,38,10902,10903,14300])
 (.seq (.ai [QL 8 4 2,Q 9 (.call 219 [.t 8] [] [(2,10902),(3,10903)]),Q 6 (.alloc [.int .i64 0,.int .i64 0,.aL 7,.aL 1]),Qs 4 6 9] [1,2,4,6] [2,4,6,27,32,38,10902,10903,14300])
 (.seq (.ai [QL 10 4 2,Qm 11 1,Q 12 (.call 196 [.t 10,.t 11] [] []),Qm 7 12] [1,2,4,6,7] [2,4,6,27,32,38,10902,10903,14300])
 (.seq (.seq (.ai [QL 13 4 2,Q 14 (.call 149 [.t 13] [] []),Q 15 (.not (.t 14)),Qm 16 15,Qg 17 (.mv (.t 7)) 16 false,Qg 18 (.bin .lss (.t 17) (kI 0)) 16 false,
   Q 19 (.pick (.t 16) (kB true) (.t 18)),Qm 20 19,Qg 21 (.bN 3 (.t 2)) 20 false,Qg 22 (.load false 1 (.t 21)) 20 false,Qg 23 (.len (.t 22)) 20 false,
   Qg 24 (.bin .geq (.t 23) (kI 20)) 20 false,Q 25 (.pick (.t 20) (kB true) (.t 24))] [1,2,4,6,7,25] [2,4,6,27,32,38,10902,10903,14300])
 (.cond (.t 25) (.seq (.ai [QL 26 4 6,Qs 4 4 26,Qb 5 false] [4,5] [4,27,32,38,10902,10903,14300])
 (.ret)) (.skip)))
 (.seq (.gV [Q 27 (.bF 7 0 [.int .i64 0,.str ⟨#[]⟩,.int .i64 0,.int .i64 0,.int .i64 0,.aL 4,.aL 1] []),Qf 28 2 6,Ql 29 28,Qm 30 7,
   Q 31 (.wL 7 (.t 29) none (some (.t 30)) none),Q 32 (.app 7 96 (.t 27) (.t 31)),Qf 33 2 6,Ql 34 33,Qm 35 7,Q 36 (.bin .add (.t 35) (kI 1)),
   Q 37 (.wL 7 (.t 34) (some (.t 36)) none none),Q 38 (.app 7 96 (.t 32) (.t 37)),Qf 39 2 6,Qs 1 39 38] [[],[],[1],[],[1,2,3],lr 5,[],[6],[],[8],[6,7,8,9],lr 11,lr 12,lr 13] [1,2,4,6] [2,4,6,27,32,38,10902,10903,14300])
 (.seq (.ai [Qf 40 3 2,Ql 41 40,Qm 42 1,Q 43 (.call 133 [.t 41,.t 42] [] [(0,14300)]),Qf 44 3 6,Qs 1 44 43] [4,6] [4,6,27,32,38,10902,10903,14300])
 (.seq (.ai [QL 45 4 6,Qs 4 4 45,Qb 5 true] [4,5] [4,27,32,38,10902,10903,14300])
 (.ret)))))))
def eY.m:Fn:={np:=2,body:=eY.b,res:=[.cell 4 true 4,.tmp 5]}
def eY.k(M:Nat→Option Body):Prop:=M 283=some (.code eY.m)∧bU.k M∧aJ.k M∧dk.k M∧b5.k M
def dW.b:C:= .seq (.ai [Qv 3 0,Qv 5 2,Q 6 (.alloc [.int .i64 0,.int .i64 0,.aL 7,.aL 1]),Qb 7 false] [1,3,5,6] [3,5,6,11002,11003,12402,12403])
 (.seq (.ai [QL 9 4 3,Q 10 (.call 219 [.t 9] [] [(2,11002),(3,11003)]),Q 8 (.alloc [.int .i64 0,.int .i64 0,.aL 7,.aL 1]),Qs 4 8 10] [1,3,5,6,8] [3,5,6,8,11002,11003,12402,12403])
 (.seq (.ai [Qf 11 2 8,Ql 12 11,Qm 13 1,QL 14 7 5,Qa 15 7 12 13,Qs 7 15 14] [3,6,8] [3,6,8,11002,11003,12402,12403])
 (.seq (.ai [Qf 16 1 3,Ql 17 16,Q 18 (.bin .add (.t 17) (kI 1)),Qf 19 1 8,Qs 1 19 18] [3,6,8] [3,6,8,11002,11003,12402,12403])
 (.seq (.seq (.ai [QL 20 4 8,Q 21 (.call 149 [.t 20] [] []),Q 22 (.not (.t 21))] [3,6,8,22] [3,6,8,11002,11003,12402,12403])
 (.cond (.t 22) (.seq (.ai [QL 23 4 3,Q 24 (.call 219 [.t 23] [] [(2,12402),(3,12403)]),Qs 4 6 24,Qb 7 false] [6,7] [6,11002,11003,12402,12403])
 (.ret)) (.skip)))
 (.seq (.ai [QL 25 4 8,Qs 4 6 25,Qb 7 true] [6,7] [6,11002,11003,12402,12403])
 (.ret))))))
def dW.m:Fn:={np:=3,body:=dW.b,res:=[.cell 6 true 4,.tmp 7]}
def dW.k(M:Nat→Option Body):Prop:=M 302=some (.code dW.m)∧aJ.k M∧b5.k M
def eX.b:C:= .seq (.ai [Qv 5 0,Q 10 (.alloc [.int .i64 0,.int .i64 0,.aL 7,.aL 1]),Qb 11 false] [1,2,3,4,5,10] [5,10,13102,13103,14902,14903,15302,15303])
 (.seq (.ai [QL 15 4 5,Qm 16 1,Q 17 (.call 196 [.t 15,.t 16] [] []),Qm 12 17] [2,3,4,5,10,12] [5,10,13102,13103,14902,14903,15302,15303])
 (.seq (.seq (.ai [QL 18 4 5,Q 19 (.call 149 [.t 18] [] []),Q 20 (.not (.t 19)),Qm 21 20,Qg 22 (.load true 4 (.t 5)) 21 false,Qg 23 (.mv (.t 2)) 21 false,
   Qg 24 (.call 300 [.t 22,.t 23] [] []) 21 false,Q 25 (.pick (.t 21) (kB true) (.t 24)),Qm 26 25,Qg 27 (.mv (.t 12)) 26 false,Qg 28 (.bin .lss (.t 27) (kI 0)) 26 false,
   Q 29 (.pick (.t 26) (kB true) (.t 28))] [2,3,4,5,10,12,29] [5,10,13102,13103,14902,14903,15302,15303])
 (.cond (.t 29) (.seq (.ai [QL 30 4 5,Q 31 (.call 219 [.t 30] [] [(2,13102),(3,13103)]),Qs 4 10 31,Qb 11 false] [10,11] [10,13102,13103,14902,14903,15302,15303])
 (.ret)) (.skip)))
 (.seq (.gV [Qf 33 2 5,Ql 34 33,Qm 35 12,Qa 36 7 34 35,QL 37 7 36,Qm 38 2,Qm 39 3,Qm 40 4,QL 41 4 5,Q 42 (.call 301 [.t 41] [] []),
   Q 43 (.call 81 [.t 37,.t 38,.t 39,.t 40,.t 42] [] []),Qm 32 43,Qx 44 0 32,Qx 45 1 32,
   Q 13 (.alloc [.int .i64 0,.str ⟨#[]⟩,.int .i64 0,.int .i64 0,.int .i64 0,.aL 4,.aL 1]),Qs 7 13 44,Qm 14 45] [[],[0],[],[0,1,2],lr 4,[],[],[],[],[8],lr 10,lr 11,lr 12,lr 12,[],lr 13++[14],lr 16] [5,10,12,13,14] [5,10,13,13102,13103,14902,14903,15302,15303])
 (.seq (.seq (.ai [Qm 46 14,Q 47 (.not (.t 46))] [5,10,12,13,47] [5,10,13,13102,13103,14902,14903,15302,15303])
 (.cond (.t 47) (.seq (.ai [QL 48 4 5,Q 49 (.call 219 [.t 48] [] [(2,14902),(3,14903)]),Qs 4 10 49,Qb 11 false] [10,11] [10,13102,13103,14902,14903,15302,15303])
 (.ret)) (.skip)))
 (.seq (.ai [QL 50 4 5,Qm 51 12,QL 52 7 13,Q 53 (.call 302 [.t 50,.t 51,.t 52] [] [(2,15302),(3,15303)]),Qx 54 0 53,Qx 55 1 53,Qs 4 10 54,Qm 11 55] [10,11] [10,13102,13103,14902,14903,15302,15303])
 (.ret))))))
def eX.m:Fn:={np:=5,body:=eX.b,res:=[.cell 10 true 4,.tmp 11]}
def eX.k(M:Nat→Option Body):Prop:=M 279=some (.code eX.m)∧dS.k M∧aJ.k M∧dk.k M∧b5.k M∧eD.k M∧dH.k M∧dW.k M
def eP.b:C:= .seq (.ai [Qv 4 0,Q 8 (.alloc [.int .i64 0,.int .i64 0,.aL 7,.aL 1]),Qb 9 false] [1,2,3,4,8] [4,8,12402,12403,14102,14103,14502,14503])
 (.seq (.ai [QL 13 4 4,Qm 14 1,Q 15 (.call 196 [.t 13,.t 14] [] []),Qm 10 15] [2,3,4,8,10] [4,8,12402,12403,14102,14103,14502,14503])
 (.seq (.seq (.ai [QL 16 4 4,Q 17 (.call 149 [.t 16] [] []),Q 18 (.not (.t 17)),Qm 19 18,Qg 20 (.mv (.t 10)) 19 false,Qg 21 (.bin .lss (.t 20) (kI 0)) 19 false,
   Q 22 (.pick (.t 19) (kB true) (.t 21))] [2,3,4,8,10,22] [4,8,12402,12403,14102,14103,14502,14503])
 (.cond (.t 22) (.seq (.ai [QL 23 4 4,Q 24 (.call 219 [.t 23] [] [(2,12402),(3,12403)]),Qs 4 8 24,Qb 9 false] [8,9] [8,12402,12403,14102,14103,14502,14503])
 (.ret)) (.skip)))
 (.seq (.gV [Qf 26 2 4,Ql 27 26,Qm 28 10,Qa 29 7 27 28,QL 30 7 29,Qm 31 2,Qm 32 3,QL 33 4 4,Q 34 (.call 301 [.t 33] [] []),Q 35 (.call 84 [.t 30,.t 31,.t 32,.t 34] [] []),Qm 25 35,
   Qx 36 0 25,Qx 37 1 25,Q 11 (.alloc [.int .i64 0,.str ⟨#[]⟩,.int .i64 0,.int .i64 0,.int .i64 0,.aL 4,.aL 1]),Qs 7 11 36,Qm 12 37] [[],[0],[],[0,1,2],lr 4,[],[],[],[7],lr 9,lr 10,lr 11,lr 11,[],lr 12++[13],lr 15] [4,8,10,11,12] [4,8,11,12402,12403,14102,14103,14502,14503])
 (.seq (.seq (.ai [Qm 38 12,Q 39 (.not (.t 38))] [4,8,10,11,39] [4,8,11,12402,12403,14102,14103,14502,14503])
 (.cond (.t 39) (.seq (.ai [QL 40 4 4,Q 41 (.call 219 [.t 40] [] [(2,14102),(3,14103)]),Qs 4 8 41,Qb 9 false] [8,9] [8,12402,12403,14102,14103,14502,14503])
 (.ret)) (.skip)))
 (.seq (.ai [QL 42 4 4,Qm 43 10,QL 44 7 11,Q 45 (.call 302 [.t 42,.t 43,.t 44] [] [(2,14502),(3,14503)]),Qx 46 0 45,Qx 47 1 45,Qs 4 8 46,Qm 9 47] [8,9] [8,12402,12403,14102,14103,14502,14503])
 (.ret))))))
def eP.m:Fn:={np:=4,body:=eP.b,res:=[.cell 8 true 4,.tmp 9]}
def eP.k(M:Nat→Option Body):Prop:=M 280=some (.code eP.m)∧dD.k M∧aJ.k M∧dk.k M∧b5.k M∧dH.k M∧dW.k M
def eQ.b:C:= .seq (.ai [Qv 3 0,Q 6 (.alloc [.int .i64 0,.int .i64 0,.aL 7,.aL 1]),Qb 7 false] [1,2,3,6] [3,6,11302,11303])
 (.seq (.ai [QL 12 4 3,Q 13 (.call 219 [.t 12] [] [(2,11302),(3,11303)]),Q 8 (.alloc [.int .i64 0,.int .i64 0,.aL 7,.aL 1]),Qs 4 8 13] [1,2,3,6,8] [3,6,8,11302,11303])
 (.seq (.ai [QL 14 4 3,Qm 15 1,Q 16 (.call 196 [.t 14,.t 15] [] []),Qm 9 16] [2,3,6,8,9] [3,6,8,11302,11303])
 (.seq (.seq (.ai [QL 17 4 3,Q 18 (.call 149 [.t 17] [] []),Q 19 (.not (.t 18)),Qm 20 19,Qg 21 (.mv (.t 9)) 20 false,Qg 22 (.bin .lss (.t 21) (kI 0)) 20 false,
   Q 23 (.pick (.t 20) (kB true) (.t 22))] [2,3,6,8,9,23] [3,6,8,11302,11303])
 (.cond (.t 23) (.seq (.ai [QL 24 4 8,Qs 4 6 24,Qb 7 false] [6,7] [6,11302,11303])
 (.ret)) (.skip)))
 (.seq (.ai [Qf 26 2 3,Ql 27 26,Qm 28 9,Qa 29 7 27 28,QL 30 7 29,Qm 31 2,Q 32 (.call 86 [.t 30,.t 31] [] []),Qm 25 32,Qx 33 0 25,Qx 34 1 25,
   Q 10 (.alloc [.int .i64 0,.str ⟨#[]⟩,.int .i64 0,.int .i64 0,.int .i64 0,.aL 4,.aL 1]),Qs 7 10 33,Qm 11 34] [6,8,9,10,11] [6,8,10,11302,11303])
 (.seq (.seq (.ai [Qm 35 11,Q 36 (.not (.t 35))] [6,8,9,10,36] [6,8,10,11302,11303])
 (.cond (.t 36) (.seq (.ai [QL 37 4 8,Qs 4 6 37,Qb 7 false] [6,7] [6,11302,11303])
 (.ret)) (.skip)))
 (.seq (.ai [Qf 38 2 8,Ql 39 38,Qm 40 9,QL 41 7 10,Qa 42 7 39 40,Qs 7 42 41] [6,8] [6,8,11302,11303])
 (.seq (.ai [QL 43 4 8,Qs 4 6 43,Qb 7 true] [6,7] [6,11302,11303])
 (.ret))))))))
def eQ.m:Fn:={np:=3,body:=eQ.b,res:=[.cell 6 true 4,.tmp 7]}
def eQ.k(M:Nat→Option Body):Prop:=M 281=some (.code eQ.m)∧de.k M∧aJ.k M∧dk.k M∧b5.k M
def ik.b:C:= .seq (.ai [Q 2 (.alloc [.int .i64 0,.int .i64 0,.aL 7,.aL 1])] [0,2] [2])
 (.seq (.ai [Qm 3 0,Q 4 (.build [.int .i64 0,.int .i64 0,.aL 7,.aL 1] [(0,1,.t 3)]),Qs 4 2 4] [2] [2])
 (.ret))
def ik.m:Fn:={np:=1,body:=ik.b,res:=[.cell 2 true 4]}
def ik.k(M:Nat→Option Body):Prop:=M 113=some (.code ik.m)
def gZ.b:C:= .seq (.ai [Qv 2 0,Qv 3 1,Q 4 (.alloc [.int .i64 0,.int .i64 0,.int .i64 0])] [2,3,4] [2,3,4])
 (.seq (.seq (.ai [Qf 5 1 3,QL 6 2 5,Qf 7 1 2,QL 8 2 7,Q 9 (.call 275 [.t 6,.t 8] [] []),Qm 10 9,Qg 11 (.bN 1 (.t 2)) 10 false,Qg 12 (.load true 2 (.t 11)) 10 false,
   Qg 13 (.bN 1 (.t 3)) 10 false,Qg 14 (.load true 2 (.t 13)) 10 false,Qg 15 (.call 275 [.t 12,.t 14] [] []) 10 false,Qg 16 (.not (.t 15)) 10 false,
   Qg 17 (.mv (.t 16)) 10 false,Qg 18 (.bN 0 (.t 3)) 17 true,Qg 19 (.load false 1 (.t 18)) 17 true,Qg 20 (.bN 0 (.t 2)) 17 true,Qg 21 (.load false 1 (.t 20)) 17 true,
   Qg 22 (.bin .gtr (.t 19) (.t 21)) 17 true,Qg 23 (.pick (.t 17) (.t 22) (kB false)) 10 false,Q 24 (.pick (.t 10) (kB true) (.t 23))] [2,3,4,24] [2,3,4])
 (.cond (.t 24) (.seq (.ai [QL 25 3 3,Qs 3 4 25] [4] [4])
 (.ret)) (.skip)))
 (.seq (.ai [QL 26 3 2,Qs 3 4 26] [4] [4])
 (.ret)))
def gZ.m:Fn:={np:=2,body:=gZ.b,res:=[.cell 4 true 3]}
def gZ.k(M:Nat→Option Body):Prop:=M 485=some (.code gZ.m)∧fV.k M
def dQ.l0:C:= .seq (.seq (.ai [Qm 8 6,Qm 9 0,Q 10 (.len (.t 9)),Q 11 (.bin .lss (.t 8) (.t 10)),Qm 12 11,Qg 13 (.mv (.t 6)) 12 true,Qg 14 (.mv (.t 1)) 12 true,Qg 15 (.len (.t 14)) 12 true,
    Qg 16 (.bin .lss (.t 13) (.t 15)) 12 true,Q 17 (.pick (.t 12) (.t 16) (kB false))] [0,1,5,6,17] [7,31])
 (.cond (.t 17) (.skip) (.exit 0)))
 (.seq (.block 1 (.gV [Qm 20 5,Qm 21 0,Qm 22 6,Qa 23 3 21 22,QL 24 3 23,Qm 25 1,Qm 26 6,Qa 27 3 25 26,QL 28 3 27,Q 29 (.call 485 [.t 24,.t 28] [] []),
   Q 30 (.bF 3 1 [.int .i64 0,.int .i64 0,.int .i64 0] [(0,.t 29)]),Q 31 (.app 3 24 (.t 20) (.t 30)),Qm 5 31] [[],[],[],[1,2],[1,2,3],[],[],[5,6],[5,6,7],[1,2,3,4,5,6,7,8],[1,2,3,4,5,6,7,8,9],lr 11,lr 12] [0,1,5,6] [7,31]))
 (.ai [Qm 18 6,Q 19 (.bin .add (.t 18) (kI 1)),Qm 6 19] [0,1,5,6] [7,31]))
def dQ.b:C:= .seq (.ai [Q 4 (.nil 3)] [0,1] [])
 (.seq (.ai [Q 7 (.bF 3 0 [.int .i64 0,.int .i64 0,.int .i64 0] []),Qm 5 7] [0,1,5] [7,31])
 (.seq (.seq (.ai [Qi 6 0] [0,1,5,6] [7,31])
 (.block 0 (.loop dQ.l0)))
 (.seq (.ai [Qm 32 5,Qm 4 32] [4] [4,7,31])
 (.ret))))
def dQ.m:Fn:={np:=2,body:=dQ.b,res:=[.tmp 4]}
def dQ.k(M:Nat→Option Body):Prop:=M 470=some (.code dQ.m)∧gZ.k M
def fu.b:C:= .seq (.ai [Qv 2 0,Qv 3 1,Q 4 (.alloc [.int .i64 0,.int .i64 0,.aL 3,.str ⟨#[]⟩])] [2,3,4] [2,3,4,11102,12300])
 (.seq (.seq (.ai [Qf 5 0 2,Ql 6 5,Qf 7 0 3,Ql 8 7,Q 9 (.bin .neq (.t 6) (.t 8))] [2,3,4,9] [2,3,4,11102,12300])
 (.cond (.t 9) (.seq (.ai [QL 10 4 2,Q 11 (.call 233 [.t 10] [] [(2,11102)]),Qs 4 4 11] [4] [4,11102,12300])
 (.ret)) (.skip)))
 (.seq (.gV [Qf 12 0 2,Ql 13 12,Qf 14 1 2,Ql 15 14,Qf 16 1 3,Ql 17 16,Q 18 (.max (.t 15) (.t 17)),Qf 19 2 2,Ql 20 19,Qf 21 2 3,Ql 22 21,
   Q 23 (.call 470 [.t 20,.t 22] [] [(0,12300)]),Qf 24 3 2,Ql 25 24,Qf 26 3 3,Ql 27 26,Q 28 (.max (.t 25) (.t 27)),
   Q 29 (.build [.int .i64 0,.int .i64 0,.aL 3,.str ⟨#[]⟩] [(0,1,.t 13),(1,1,.t 18),(2,1,.t 23),(3,1,.t 28)]),Qs 4 4 29] [[],[0],[],[2],[],[4],[2,3,4,5],[],[7],[],[9],[7,8,9,10],[],[12],[],[14],[12,13,14,15],lr 17,lr 18] [4] [4,11102,12300])
 (.ret)))
def fu.m:Fn:={np:=2,body:=fu.b,res:=[.cell 4 true 4]}
def fu.k(M:Nat→Option Body):Prop:=M 452=some (.code fu.m)∧ei.k M∧dQ.k M
def gk.b:C:= .seq (.ai [Qv 2 0,Qv 3 1,Q 4 (.alloc [.int .i64 0,.int .i64 0,.int .i64 0])] [2,3,4] [2,3,4])
 (.seq (.seq (.ai [Qf 5 1 2,QL 6 2 5,Qf 7 1 3,QL 8 2 7,Q 9 (.call 277 [.t 6,.t 8] [] []),Qm 10 9,Qg 11 (.bN 1 (.t 2)) 10 false,Qg 12 (.load true 2 (.t 11)) 10 false,
   Qg 13 (.bN 1 (.t 3)) 10 false,Qg 14 (.load true 2 (.t 13)) 10 false,Qg 15 (.eqs false [.int,.int] (.t 12) (.t 14)) 10 false,Qg 16 (.mv (.t 15)) 10 false,
   Qg 17 (.bN 0 (.t 2)) 16 true,Qg 18 (.load false 1 (.t 17)) 16 true,Qg 19 (.bN 0 (.t 3)) 16 true,Qg 20 (.load false 1 (.t 19)) 16 true,
   Qg 21 (.bin .geq (.t 18) (.t 20)) 16 true,Qg 22 (.pick (.t 16) (.t 21) (kB false)) 10 false,Q 23 (.pick (.t 10) (kB true) (.t 22))] [2,3,4,23] [2,3,4])
 (.cond (.t 23) (.seq (.ai [QL 24 3 2,Qs 3 4 24] [4] [4])
 (.ret)) (.skip)))
 (.seq (.ai [QL 25 3 3,Qs 3 4 25] [4] [4])
 (.ret)))
def gk.m:Fn:={np:=2,body:=gk.b,res:=[.cell 4 true 3]}
def gk.k(M:Nat→Option Body):Prop:=M 488=some (.code gk.m)∧hQ.k M
def dK.l0:C:= .seq (.seq (.ai [Qm 8 6,Qm 9 0,Q 10 (.len (.t 9)),Q 11 (.bin .lss (.t 8) (.t 10)),Qm 12 11,Qg 13 (.mv (.t 6)) 12 true,Qg 14 (.mv (.t 1)) 12 true,Qg 15 (.len (.t 14)) 12 true,
    Qg 16 (.bin .lss (.t 13) (.t 15)) 12 true,Q 17 (.pick (.t 12) (.t 16) (kB false))] [0,1,5,6,17] [7,31])
 (.cond (.t 17) (.skip) (.exit 0)))
 (.seq (.block 1 (.gV [Qm 20 5,Qm 21 0,Qm 22 6,Qa 23 3 21 22,QL 24 3 23,Qm 25 1,Qm 26 6,Qa 27 3 25 26,QL 28 3 27,Q 29 (.call 488 [.t 24,.t 28] [] []),
   Q 30 (.bF 3 1 [.int .i64 0,.int .i64 0,.int .i64 0] [(0,.t 29)]),Q 31 (.app 3 24 (.t 20) (.t 30)),Qm 5 31] [[],[],[],[1,2],[1,2,3],[],[],[5,6],[5,6,7],[1,2,3,4,5,6,7,8],[1,2,3,4,5,6,7,8,9],lr 11,lr 12] [0,1,5,6] [7,31]))
 (.ai [Qm 18 6,Q 19 (.bin .add (.t 18) (kI 1)),Qm 6 19] [0,1,5,6] [7,31]))
def dK.b:C:= .seq (.ai [Q 4 (.nil 3)] [0,1] [])
 (.seq (.ai [Q 7 (.bF 3 0 [.int .i64 0,.int .i64 0,.int .i64 0] []),Qm 5 7] [0,1,5] [7,31])
 (.seq (.seq (.ai [Qi 6 0] [0,1,5,6] [7,31])
 (.block 0 (.loop dK.l0)))
 (.seq (.ai [Qm 32 5,Qm 4 32] [4] [4,7,31])
 (.ret))))
def dK.m:Fn:={np:=2,body:=dK.b,res:=[.tmp 4]}
def dK.k(M:Nat→Option Body):Prop:=M 472=some (.code dK.m)∧gk.k M
def fq.b:C:= .seq (.ai [Qv 2 0,Qv 3 1,Q 4 (.alloc [.int .i64 0,.int .i64 0,.aL 3,.str ⟨#[]⟩])] [2,3,4] [2,3,4,10702,11800])
 (.seq (.ai [QL 6 4 2,Q 7 (.call 238 [.t 6] [] [(2,10702)]),Q 5 (.alloc [.int .i64 0,.int .i64 0,.aL 3,.str ⟨#[]⟩]),Qs 4 5 7] [2,3,4,5] [2,3,4,5,10702,11800])
 (.seq (.seq (.ai [Qf 8 0 2,Ql 9 8,Qf 10 0 3,Ql 11 10,Q 12 (.bin .neq (.t 9) (.t 11))] [2,3,4,5,12] [2,3,4,5,10702,11800])
 (.cond (.t 12) (.seq (.ai [QL 13 4 5,Qs 4 4 13] [4] [4,10702,11800])
 (.ret)) (.skip)))
 (.seq (.ai [Qf 14 2 2,Ql 15 14,Qf 16 2 3,Ql 17 16,Q 18 (.call 472 [.t 15,.t 17] [] [(0,11800)]),Qf 19 2 5,Qs 1 19 18] [2,3,4,5] [2,3,4,5,10702,11800])
 (.seq (.seq (.ai [Qf 20 1 3,Ql 21 20,Qf 22 1 2,Ql 23 22,Q 24 (.bin .gtr (.t 21) (.t 23))] [2,3,4,5,24] [2,3,4,5,10702,11800])
 (.cond (.t 24) (.ai [Qf 25 1 3,Ql 26 25,Qf 27 1 5,Qs 1 27 26] [2,3,4,5] [2,3,4,5,10702,11800]) (.skip)))
 (.seq (.seq (.ai [Qf 28 3 3,Ql 29 28,Qf 30 3 2,Ql 31 30,Q 32 (.bin .gtr (.t 29) (.t 31))] [3,4,5,32] [3,4,5,10702,11800])
 (.cond (.t 32) (.ai [Qf 33 3 3,Ql 34 33,Qf 35 3 5,Qs 1 35 34] [4,5] [4,5,10702,11800]) (.skip)))
 (.seq (.ai [QL 36 4 5,Qs 4 4 36] [4] [4,10702,11800])
 (.ret)))))))
def fq.m:Fn:={np:=2,body:=fq.b,res:=[.cell 4 true 4]}
def fq.k(M:Nat→Option Body):Prop:=M 461=some (.code fq.m)∧fD.k M∧dK.k M
def aC.l0:C:= .seq (.seq (.ai [Qm 16 6,Qm 17 0,Q 18 (.len (.t 17)),Q 19 (.bin .lss (.t 16) (.t 18))] [0,1,5,6,19] [0])
 (.cond (.t 19) (.skip) (.exit 0)))
 (.seq (.block 1 (.seq (.ai [Qm 22 0,Qm 23 6,Qa 24 4 22 23,QL 25 4 24,Q 7 (.alloc [.int .i64 0,.int .i64 0,.aL 3,.str ⟨#[]⟩]),Qs 4 7 25] [0,1,5,6,7] [0,7])
 (.seq (.ai [Qm 26 1,QL 27 4 7,Q 28 (.oO (.t 26) [.t 27]),Q 29 (.not (.t 28))] [0,1,5,6,7,29] [0,7])
 (.cond (.t 29) (.seq (.ai [Qm 30 0,Qm 31 5,QL 32 4 7,Qa 33 4 30 31,Qs 4 33 32] [0,1,5,6] [0])
 (.ai [Qm 34 5,Q 35 (.bin .add (.t 34) (kI 1)),Qm 5 35] [0,1,5,6] [0])) (.skip)))))
 (.ai [Qm 20 6,Q 21 (.bin .add (.t 20) (kI 1)),Qm 6 21] [0,1,5,6] [0]))
def aC.b:C:= .seq (.ai [Q 4 (.nil 4)] [0,1] [0])
 (.seq (.ai [Qm 8 0,Qm 9 1,Q 10 (.call 161 [.t 8,.t 9] [] []),Qm 5 10] [0,1,5] [0])
 (.seq (.seq (.ai [Qm 11 5,Q 12 (.bin .eql (.t 11) (kI (-1)))] [0,1,5,12] [0])
 (.cond (.t 12) (.seq (.ai [Qm 13 0,Qm 4 13] [4] [0,4])
 (.ret)) (.skip)))
 (.seq (.seq (.ai [Qm 14 5,Q 15 (.bin .add (.t 14) (kI 1)),Qm 6 15] [0,1,5,6] [0])
 (.block 0 (.loop aC.l0)))
 (.seq (.ai [Qm 36 0,Qm 37 5,Q 38 (.wL 4 (.t 36) (some (.t 37)) none none),Qn (.EH [.int .i64 0,.int .i64 0,.aL 3,.str ⟨#[]⟩] (.t 38))] [0,5] [0])
 (.seq (.ai [Qm 39 0,Qm 40 5,Q 41 (.wL 4 (.t 39) none (some (.t 40)) none),Qm 4 41] [4] [0,4])
 (.ret))))))
def aC.m:Fn:={np:=2,body:=aC.b,res:=[.tmp 4]}
def aC.k(M:Nat→Option Body):Prop:=M 453=some (.code aC.m)∧az.k M
def gI.b:C:= .seq (.ai [Qv 2 0,Qb 3 false] [1,2] [2])
 (.seq (.ai [Ql 4 1,Qf 5 0 2,Ql 6 5,Q 7 (.call 156 [.t 4,.t 6] [] []),Qm 3 7] [3] [])
 (.ret))
def gI.m:Fn:={np:=2,body:=gI.b,res:=[.tmp 3]}
def gI.k(M:Nat→Option Body):Prop:=M 454=some (.code gI.m)∧aI.k M
def ao.l1:C:= .seq (.seq (.gV [Qm 18 9,Qm 19 1,Q 20 (.bin .gtr (.t 18) (.t 19)),Qm 21 20,Qg 22 (.mv (.t 3)) 21 true,Qg 23 (.mv (.t 0)) 21 true,Qg 24 (.mv (.t 9)) 21 true,
    Qg 25 (.kG 4 (.t 23) (.t 24)) 21 true,Qg 26 (.load true 4 (.t 25)) 21 true,Qg 27 (.mv (.t 0)) 21 true,Qg 28 (.mv (.t 9)) 21 true,Qg 29 (.bin .sub (.t 28) (kI 1)) 21 true,
    Qg 30 (.kG 4 (.t 27) (.t 29)) 21 true,Qg 31 (.load true 4 (.t 30)) 21 true,Qg 32 (.oO (.t 22) [.t 26,.t 31]) 21 true,Qg 33 (.bin .lss (.t 32) (kI 0)) 21 true,
    Q 34 (.pick (.t 21) (.t 33) (kB false))] [[],[],[0,1],[0,1,2],lr 4,lr 4,lr 4,lr 4++[5,6],lr 4++[5,6,7],lr 4,lr 4,lr 4++[10],lr 4++[9,10,11],lr 4++[9,10,11,12],lr 14,lr 15,lr 16] [0,1,2,3,8,9,34] [0])
 (.cond (.t 34) (.skip) (.exit 2)))
 (.seq (.block 3 (.gV [Qm 37 0,Qm 38 9,Qm 39 0,Qm 40 9,Q 41 (.bin .sub (.t 40) (kI 1)),Qm 42 0,Qm 43 9,Q 44 (.bin .sub (.t 43) (kI 1)),Qa 45 4 42 44,QL 46 4 45,Qm 47 0,Qm 48 9,Qa 49 4 47 48,
   QL 50 4 49,Qa 51 4 37 38,Qs 4 51 46,Qa 52 4 39 41,Qs 4 52 50] [[],[],[],[],[3],[],[],[6],[5,6,7],[5,6,7,8],[],[],[10,11],[10,11,12],[0,1,5,6,7,8,9,10,11,12,13],[0,1,5,6,7,8,9,10,11,12,13,14],lr 16,lr 17] [0,1,2,3,8,9] [0]))
 (.ai [Qm 35 9,Q 36 (.bin .sub (.t 35) (kI 1)),Qm 9 36] [0,1,2,3,8,9] [0]))
def ao.l0:C:= .seq (.seq (.ai [Qm 12 8,Qm 13 2,Q 14 (.bin .lss (.t 12) (.t 13))] [0,1,2,3,8,14] [0])
 (.cond (.t 14) (.skip) (.exit 0)))
 (.seq (.block 1 (.seq (.ai [Qm 17 8,Qm 9 17] [0,1,2,3,8,9] [0])
 (.block 2 (.loop ao.l1))))
 (.ai [Qm 15 8,Q 16 (.bin .add (.t 15) (kI 1)),Qm 8 16] [0,1,2,3,8] [0]))
def ao.b:C:= .seq (.ai [Qm 10 1,Q 11 (.bin .add (.t 10) (kI 1)),Qm 8 11] [0,1,2,3,8] [0])
 (.block 0 (.loop ao.l0))
def ao.m:Fn:={np:=4,body:=ao.b,res:=[]}
def ao.k(M:Nat→Option Body):Prop:=M 486=some (.code ao.m)
def aM.l0:C:= .seq (.seq (.ai [Qm 11 8,Qm 12 1,Q 13 (.bin .leq (.t 11) (.t 12))] [0,1,2,6,7,8,13] [0])
 (.cond (.t 13) (.skip) (.exit 0)))
 (.block 1 (.seq (.ai [Qm 14 0,Qm 15 7,Qm 16 8,Qm 17 2,Q 18 (.call 486 [.t 14,.t 15,.t 16,.t 17] [0] [])] [0,1,2,6,8] [0])
 (.seq (.ai [Qm 19 8,Qm 7 19] [0,1,2,6,7,8] [0])
 (.ai [Qm 20 8,Qm 21 6,Q 22 (.bin .add (.t 20) (.t 21)),Qm 8 22] [0,1,2,6,7,8] [0]))))
def aM.l2:C:= .seq (.seq (.ai [Qm 33 8,Qm 34 1,Q 35 (.bin .leq (.t 33) (.t 34))] [0,1,2,6,7,8,35] [0])
 (.cond (.t 35) (.skip) (.exit 4)))
 (.block 5 (.seq (.ai [Qm 36 0,Qm 37 7,Qm 38 7,Qm 39 6,Q 40 (.bin .add (.t 38) (.t 39)),Qm 41 8,Qm 42 2,Q 43 (.call 487 [.t 36,.t 37,.t 40,.t 41,.t 42] [0] [])] [0,1,2,6,8] [0])
 (.seq (.ai [Qm 44 8,Qm 7 44] [0,1,2,6,7,8] [0])
 (.ai [Qm 45 8,Qm 46 6,Q 47 (.bin .mul (kI 2) (.t 46)),Q 48 (.bin .add (.t 45) (.t 47)),Qm 8 48] [0,1,2,6,7,8] [0]))))
def aM.l1:C:= .seq (.seq (.ai [Qm 28 6,Qm 29 1,Q 30 (.bin .lss (.t 28) (.t 29))] [0,1,2,6,30] [0])
 (.cond (.t 30) (.skip) (.exit 2)))
 (.block 3 (.seq (.ai [Qm 31 6,Q 32 (.bin .mul (kI 2) (.t 31)),Qi 7 0,Qm 8 32] [0,1,2,6,7,8] [0])
 (.seq (.block 4 (.loop aM.l2))
 (.seq (.seq (.ai [Qm 49 7,Qm 50 6,Q 51 (.bin .add (.t 49) (.t 50)),Qm 9 51] [0,1,2,6,7,9] [0])
 (.seq (.ai [Qm 52 9,Qm 53 1,Q 54 (.bin .lss (.t 52) (.t 53))] [0,1,2,6,7,9,54] [0])
 (.cond (.t 54) (.ai [Qm 55 0,Qm 56 7,Qm 57 9,Qm 58 1,Qm 59 2,Q 60 (.call 487 [.t 55,.t 56,.t 57,.t 58,.t 59] [0] [])] [0,1,2,6] [0]) (.skip))))
 (.ai [Qm 61 6,Q 62 (.bin .mul (.t 61) (kI 2)),Qm 6 62] [0,1,2,6] [0])))))
def aM.b:C:= .seq (.ai [Qi 6 20] [0,1,2,6] [0])
 (.seq (.ai [Qm 10 6,Qi 7 0,Qm 8 10] [0,1,2,6,7,8] [0])
 (.seq (.block 0 (.loop aM.l0))
 (.seq (.ai [Qm 23 0,Qm 24 7,Qm 25 1,Qm 26 2,Q 27 (.call 486 [.t 23,.t 24,.t 25,.t 26] [0] [])] [0,1,2,6] [0])
 (.block 2 (.loop aM.l1)))))
def aM.m:Fn:={np:=3,body:=aM.b,res:=[]}
def aM.k(M:Nat→Option Body):Prop:=M 471=some (.code aM.m)∧ao.k M
def aU.b:C:= .ai [Qm 4 0,Qm 5 0,Q 6 (.len (.t 5)),Qm 7 1,Q 8 (.call 471 [.t 4,.t 6,.t 7] [0] [])] [] [0]
def aU.m:Fn:={np:=2,body:=aU.b,res:=[]}
def aU.k(M:Nat→Option Body):Prop:=M 455=some (.code aU.m)∧aM.k M
def eZ.b:C:= .seq (.ai [Qi 4 0] [0,1] [])
 (.seq (.block 0 (.seq (.ai [Qm 6 0,Qm 7 1,Q 8 (.bin .lss (.t 6) (.t 7)),Qm 5 8] [0,1,5] [])
 (.cond (.t 5) (.seq (.ai [Qi 4 (-1)] [4] [])
 (.ret)) (.seq (.ai [Qm 10 0,Qm 11 1,Q 12 (.bin .gtr (.t 10) (.t 11)),Qm 9 12] [9] [])
 (.cond (.t 9) (.seq (.ai [Qi 4 1] [4] [])
 (.ret)) (.skip))))))
 (.seq (.ai [Qi 4 0] [4] [])
 (.ret)))
def eZ.m:Fn:={np:=2,body:=eZ.b,res:=[.tmp 4]}
def eZ.k(M:Nat→Option Body):Prop:=M 457=some (.code eZ.m)
def gH.b:C:= .seq (.ai [Qv 2 0,Qv 3 1,Qi 4 0] [2,3] [2,3])
 (.seq (.ai [Qf 5 0 2,Ql 6 5,Qf 7 0 3,Ql 8 7,Q 9 (.call 457 [.t 6,.t 8] [] []),Qm 4 9] [4] [])
 (.ret))
def gH.m:Fn:={np:=2,body:=gH.b,res:=[.tmp 4]}
def gH.k(M:Nat→Option Body):Prop:=M 456=some (.code gH.m)∧eZ.k M
def gG.b:C:= .seq (.ai [Qv 2 0,Qv 3 1,Qi 4 0] [2,3] [2,3])
 (.seq (.ai [Qf 5 1 2,Ql 6 5,Qf 7 1 3,Ql 8 7,Q 9 (.call 457 [.t 6,.t 8] [] []),Qm 4 9] [4] [])
 (.ret))
def gG.m:Fn:={np:=2,body:=gG.b,res:=[.tmp 4]}
def gG.k(M:Nat→Option Body):Prop:=M 458=some (.code gG.m)∧eZ.k M
def bR.l0:C:= .seq (.ai [Q 21 (.bin .lss (.t 20) (.t 19))] [2,3,6,18,19,20,21] [2,3,16,41,59,16800])
 (.seq (.cond (.t 21) (.skip) (.exit 0))
 (.seq (.block 1 (.seq (.ai [Qa 22 4 18 20,QL 23 4 22,Q 8 (.alloc [.int .i64 0,.int .i64 0,.aL 3,.str ⟨#[]⟩]),Qs 4 8 23] [2,3,6,8,18,19,20] [2,3,8,16,41,59,16800])
 (.seq (.seq (.ai [QL 24 7 3,Qf 25 0 8,Ql 26 25,Q 27 (.call 72 [.t 24,.t 26] [] []),Qm 9 27] [2,3,6,8,9,18,19,20] [2,3,8,16,41,59,16800])
 (.seq (.ai [Qm 28 9,Q 29 (.bin .geq (.t 28) (kI 0))] [2,3,6,8,9,18,19,20,29] [2,3,8,16,41,59,16800])
 (.cond (.t 29) (.gV [QL 30 4 8,Qf 31 5 3,Ql 32 31,Qm 33 9,Qa 34 4 32 33,QL 35 4 34,Q 36 (.call 452 [.t 30,.t 35] [] []),Qs 4 8 36] [[],[],[1],[],[1,2,3],[1,2,3,4],lr 6,lr 7] [2,3,6,8,18,19,20] [2,3,8,16,41,59,16800]) (.skip))))
 (.ai [Qm 37 6,QL 38 4 8,Q 39 (.call 233 [.t 38] [] []),Q 40 (.bF 4 1 [.int .i64 0,.int .i64 0,.aL 3,.str ⟨#[]⟩] [(0,.t 39)]),Q 41 (.app 4 56 (.t 37) (.t 40)),Qm 6 41] [2,3,6,18,19,20] [2,3,16,41,59,16800]))))
 (.ai [Q 42 (.bin .add (.t 20) (kI 1)),Qm 20 42] [2,3,6,18,19,20] [2,3,16,41,59,16800])))
def bR.l1:C:= .seq (.ai [Q 47 (.bin .lss (.t 46) (.t 45))] [2,3,6,44,45,46,47] [2,3,16,41,59,16800])
 (.seq (.cond (.t 47) (.skip) (.exit 2))
 (.seq (.block 3 (.seq (.ai [Qa 48 4 44 46,QL 49 4 48,Q 11 (.alloc [.int .i64 0,.int .i64 0,.aL 3,.str ⟨#[]⟩]),Qs 4 11 49] [2,3,6,11,44,45,46] [2,3,11,16,41,59,16800])
 (.seq (.ai [QL 50 7 2,Qf 51 0 11,Ql 52 51,Q 53 (.call 20 [.t 50,.t 52] [] []),Q 54 (.not (.t 53))] [2,3,6,11,44,45,46,54] [2,3,11,16,41,59,16800])
 (.cond (.t 54) (.ai [Qm 55 6,QL 56 4 11,Q 57 (.call 233 [.t 56] [] []),Q 58 (.bF 4 1 [.int .i64 0,.int .i64 0,.aL 3,.str ⟨#[]⟩] [(0,.t 57)]),Q 59 (.app 4 56 (.t 55) (.t 58)),Qm 6 59] [2,3,6,44,45,46] [2,3,16,41,59,16800]) (.skip)))))
 (.ai [Q 60 (.bin .add (.t 46) (kI 1)),Qm 46 60] [2,3,6,44,45,46] [2,3,16,41,59,16800])))
def bR.l2:C:= .seq (.ai [Q 79 (.bin .lss (.t 78) (.t 77))] [2,3,6,13,76,77,78,79] [2,3,16,41,59,16800])
 (.seq (.cond (.t 79) (.skip) (.exit 4))
 (.seq (.block 5 (.seq (.ai [Qm 80 78,Qa 81 4 76 78,QL 82 4 81,Q 15 (.alloc [.int .i64 0,.int .i64 0,.aL 3,.str ⟨#[]⟩]),Qm 14 80,Qs 4 15 82] [2,3,6,13,14,15,76,77,78] [2,3,15,16,41,59,16800])
 (.seq (.ai [QL 83 7 2,Qf 84 0 15,Ql 85 84,Q 86 (.call 20 [.t 83,.t 85] [] []),Qm 87 86,Qg 88 (.load true 7 (.t 2)) 87 true,Qg 89 (.load true 7 (.t 3)) 87 true,
   Qg 90 (.bN 0 (.t 15)) 87 true,Qg 91 (.load false 1 (.t 90)) 87 true,Qg 92 (.call 23 [.t 88,.t 89,.t 91] [] []) 87 true,Qg 93 (.not (.t 92)) 87 true,
   Q 94 (.pick (.t 87) (.t 93) (kB false)),Qm 95 94,Qg 96 (.load true 7 (.t 3)) 95 false,Qg 97 (.bN 0 (.t 15)) 95 false,Qg 98 (.load false 1 (.t 97)) 95 false,
   Qg 99 (.call 20 [.t 96,.t 98] [] []) 95 false,Qg 100 (.mv (.t 99)) 95 false,Qg 101 (.load true 7 (.t 3)) 100 true,Qg 102 (.load true 7 (.t 2)) 100 true,
   Qg 103 (.bN 0 (.t 15)) 100 true,Qg 104 (.load false 1 (.t 103)) 100 true,Qg 105 (.call 23 [.t 101,.t 102,.t 104] [] []) 100 true,Qg 106 (.not (.t 105)) 100 true,
   Qg 107 (.pick (.t 100) (.t 106) (kB false)) 95 false,Q 108 (.pick (.t 95) (kB true) (.t 107))] [2,3,6,13,14,76,77,78,108] [2,3,16,41,59,16800])
 (.cond (.t 108) (.seq (.ai [Qm 109 6,Qm 110 14,Qm 111 13,Qa 112 4 109 110,Qf 113 1 112,Qs 1 113 111] [2,3,6,13,76,77,78] [2,3,16,41,59,16800])
 (.ai [Qm 114 13,Q 115 (.bin .add (.t 114) (kI 1)),Qm 13 115] [2,3,6,13,76,77,78] [2,3,16,41,59,16800])) (.skip)))))
 (.ai [Q 116 (.bin .add (.t 78) (kI 1)),Qm 78 116] [2,3,6,13,76,77,78] [2,3,16,41,59,16800])))
def bR.b:C:= .seq (.ai [Qv 2 0,Qv 3 1,Q 4 (.nil 4),Qi 5 0] [2,3] [2,3])
 (.seq (.ai [Q 16 (.bF 4 0 [.int .i64 0,.int .i64 0,.aL 3,.str ⟨#[]⟩] []),Qm 6 16] [2,3,6] [2,3,16,41,59,16800])
 (.seq (.seq (.ai [Qf 17 5 2,Ql 18 17,Q 19 (.len (.t 18)),Qi 20 0] [2,3,6,18,19,20] [2,3,16,41,59,16800])
 (.block 0 (.loop bR.l0)))
 (.seq (.seq (.ai [Qf 43 5 3,Ql 44 43,Q 45 (.len (.t 44)),Qi 46 0] [2,3,6,44,45,46] [2,3,16,41,59,16800])
 (.block 2 (.loop bR.l1)))
 (.seq (.ai [Qf 61 6 2,Ql 62 61,Qf 63 6 3,Ql 64 63,Q 65 (.call 44 [.t 62,.t 64] [] []),Q 12 (.alloc [.aL 1]),Qs 1 12 65] [2,3,6,12] [2,3,12,16,41,59,16800])
 (.seq (.shut [12] (.ai [Qm 66 6,Q 67 (.tL 454 [.t 12]),Q 68 (.call 453 [.t 66,.t 67] [0] [(0,16800)]),Qm 6 68] [2,3,6] [2,3,16,41,59,16800]))
 (.seq (.ai [Qm 69 6,Q 70 (.call 455 [.t 69,.fn 456] [0] [])] [2,3,6] [2,3,16,41,59,16800])
 (.seq (.ai [Qf 71 4 2,Ql 72 71,Qf 73 4 3,Ql 74 73,Q 75 (.max (.t 72) (.t 74)),Qm 13 75] [2,3,6,13] [2,3,16,41,59,16800])
 (.seq (.seq (.ai [Qm 76 6,Q 77 (.len (.t 76)),Qi 78 0] [2,3,6,13,76,77,78] [2,3,16,41,59,16800])
 (.block 4 (.loop bR.l2)))
 (.seq (.ai [Qm 117 6,Q 118 (.call 455 [.t 117,.fn 458] [0] [])] [6,13] [16,41,59,16800])
 (.seq (.ai [Qm 119 6,Qm 120 13,Qm 4 119,Qm 5 120] [4,5] [4,16,41,59,16800])
 (.ret)))))))))))
def bR.m:Fn:={np:=2,body:=bR.b,res:=[.tmp 4,.tmp 5]}
def bR.k(M:Nat→Option Body):Prop:=M 437=some (.code bR.m)∧jd.k M∧dE.k M∧fv.k M∧cy.k M∧ei.k M∧fu.k M∧aC.k M∧gI.k M∧aU.k M∧gH.k M∧gG.k M
def gE.b:C:= .seq (.ai [Qv 2 0,Qv 3 1,Q 4 (.alloc [.int .i64 0,.str ⟨#[]⟩,.int .i64 0,.int .i64 0,.int .i64 0,.aL 4,.aL 1])] [2,3,4] [2,3,4,11205,11206,12300,15400])
 (.seq (.seq (.ai [Qf 6 0 2,Ql 7 6,Qf 8 0 3,Ql 9 8,Q 10 (.bin .neq (.t 7) (.t 9))] [2,3,4,10] [2,3,4,11205,11206,12300,15400])
 (.cond (.t 10) (.seq (.ai [QL 11 7 2,Q 12 (.call 155 [.t 11] [] [(5,11205),(6,11206)]),Qs 7 4 12] [4] [4,11205,11206,12300,15400])
 (.ret)) (.skip)))
 (.seq (.gV [Qf 13 0 2,Ql 14 13,Qf 15 1 2,Ql 16 15,Qf 17 2 2,QL 18 2 17,Qf 19 6 2,Ql 20 19,Qf 21 6 3,Ql 22 21,Q 23 (.call 44 [.t 20,.t 22] [] [(0,12300)]),
   Q 24 (.build [.int .i64 0,.str ⟨#[]⟩,.int .i64 0,.int .i64 0,.int .i64 0,.aL 4,.aL 1] [(0,1,.t 14),(1,1,.t 16),(2,2,.t 18),(6,1,.t 23)]),
   Q 5 (.alloc [.int .i64 0,.str ⟨#[]⟩,.int .i64 0,.int .i64 0,.int .i64 0,.aL 4,.aL 1]),Qs 7 5 24] [[],[0],[],[2],[],[4],[],[6],[],[8],[6,7,8,9],lr 11,[],lr 13] [2,3,4,5] [2,3,4,5,11205,11206,12300,15400])
 (.seq (.seq (.ai [Qf 25 2 3,QL 26 2 25,Qf 27 2 2,QL 28 2 27,Q 29 (.call 275 [.t 26,.t 28] [] []),Qm 30 29,Qg 31 (.bN 2 (.t 2)) 30 false,Qg 32 (.load true 2 (.t 31)) 30 false,
   Qg 33 (.bN 2 (.t 3)) 30 false,Qg 34 (.load true 2 (.t 33)) 30 false,Qg 35 (.call 275 [.t 32,.t 34] [] []) 30 false,Qg 36 (.not (.t 35)) 30 false,
   Qg 37 (.mv (.t 36)) 30 false,Qg 38 (.bN 1 (.t 3)) 37 true,Qg 39 (.load false 1 (.t 38)) 37 true,Qg 40 (.bN 1 (.t 2)) 37 true,Qg 41 (.load false 1 (.t 40)) 37 true,
   Qg 42 (.bin .gtr (.t 39) (.t 41)) 37 true,Qg 43 (.pick (.t 37) (.t 42) (kB false)) 30 false,Q 44 (.pick (.t 30) (kB true) (.t 43))] [2,3,4,5,44] [2,3,4,5,11205,11206,12300,15400])
 (.cond (.t 44) (.seq (.ai [Qf 45 1 3,Ql 46 45,Qf 47 1 5,Qs 1 47 46] [2,3,4,5] [2,3,4,5,11205,11206,12300,15400])
 (.ai [Qf 48 2 3,QL 49 2 48,Qf 50 2 5,Qs 2 50 49] [2,3,4,5] [2,3,4,5,11205,11206,12300,15400])) (.skip)))
 (.seq (.ai [QL 52 7 2,QL 53 7 3,Q 54 (.call 437 [.t 52,.t 53] [] [(0,15400)]),Qm 51 54,Qx 55 0 51,Qx 56 1 51,Qf 57 5 5,Qs 1 57 55,Qf 58 4 5,Qs 1 58 56] [4,5] [4,5,11205,11206,12300,15400])
 (.seq (.ai [QL 59 7 5,Qs 7 4 59] [4] [4,11205,11206,12300,15400])
 (.ret))))))
def gE.m:Fn:={np:=2,body:=gE.b,res:=[.cell 4 true 7]}
def gE.k(M:Nat→Option Body):Prop:=M 401=some (.code gE.m)∧fv.k M∧cm.k M∧fV.k M∧bR.k M
def gS.b:C:= .seq (.ai [Qv 2 0,Qv 3 1,Qi 4 0] [2,3] [2,3])
 (.seq (.seq (.ai [Qf 5 4 2,Ql 6 5,Qf 7 4 3,Ql 8 7,Q 9 (.bin .gtr (.t 6) (.t 8))] [2,3,9] [2,3])
 (.cond (.t 9) (.seq (.ai [Qf 10 4 2,Ql 11 10,Qm 4 11] [4] [])
 (.ret)) (.skip)))
 (.seq (.ai [Qf 12 4 3,Ql 13 12,Qm 4 13] [4] [])
 (.ret)))
def gS.m:Fn:={np:=2,body:=gS.b,res:=[.tmp 4]}
def gS.k(M:Nat→Option Body):Prop:=M 459=some (.code gS.m)
def db.l0:C:= .seq (.seq (.ai [Qm 9 6,Qf 10 5 2,Ql 11 10,Q 12 (.len (.t 11)),Q 13 (.bin .lss (.t 9) (.t 12))] [2,3,5,6,13] [2,3,8])
 (.cond (.t 13) (.skip) (.exit 0)))
 (.seq (.block 1 (.seq (.ai [Qm 16 5,Qf 17 5 2,Ql 18 17,Qm 19 6,Qa 20 4 18 19,Qf 21 0 20,Ql 22 21,Q 23 (.call 132 [.t 16,.t 22] [] []),Q 24 (.not (.t 23))] [2,3,5,6,24] [2,3,8])
 (.cond (.t 24) (.ai [Qm 25 5,Qf 26 5 2,Ql 27 26,Qm 28 6,Qa 29 4 27 28,Qf 30 0 29,Ql 31 30,Q 32 (.call 133 [.t 25,.t 31] [] [(0,8)]),Qm 5 32] [2,3,5,6] [2,3,8]) (.skip))))
 (.ai [Qm 14 6,Q 15 (.bin .add (.t 14) (kI 1)),Qm 6 15] [2,3,5,6] [2,3,8]))
def db.l1:C:= .seq (.seq (.ai [Qm 33 7,Qf 34 5 3,Ql 35 34,Q 36 (.len (.t 35)),Q 37 (.bin .lss (.t 33) (.t 36))] [3,5,7,37] [3,8])
 (.cond (.t 37) (.skip) (.exit 2)))
 (.seq (.block 3 (.seq (.ai [Qm 40 5,Qf 41 5 3,Ql 42 41,Qm 43 7,Qa 44 4 42 43,Qf 45 0 44,Ql 46 45,Q 47 (.call 132 [.t 40,.t 46] [] []),Q 48 (.not (.t 47))] [3,5,7,48] [3,8])
 (.cond (.t 48) (.ai [Qm 49 5,Qf 50 5 3,Ql 51 50,Qm 52 7,Qa 53 4 51 52,Qf 54 0 53,Ql 55 54,Q 56 (.call 133 [.t 49,.t 55] [] [(0,8)]),Qm 5 56] [3,5,7] [3,8]) (.skip))))
 (.ai [Qm 38 7,Q 39 (.bin .add (.t 38) (kI 1)),Qm 7 39] [3,5,7] [3,8]))
def db.b:C:= .seq (.ai [Qv 2 0,Qv 3 1,Q 4 (.nil 1)] [2,3] [2,3])
 (.seq (.ai [Q 8 (.bF 1 0 [.int .i64 0] []),Qm 5 8] [2,3,5] [2,3,8])
 (.seq (.seq (.ai [Qi 6 0] [2,3,5,6] [2,3,8])
 (.block 0 (.loop db.l0)))
 (.seq (.seq (.ai [Qi 7 0] [3,5,7] [3,8])
 (.block 2 (.loop db.l1)))
 (.seq (.ai [Qm 57 5,Qm 4 57] [4] [4,8])
 (.ret)))))
def db.m:Fn:={np:=2,body:=db.b,res:=[.tmp 4]}
def db.k(M:Nat→Option Body):Prop:=M 460=some (.code db.m)∧bf.k M∧bU.k M
def cK.l0:C:= .seq (.seq (.ai [Qm 9 6,Qm 10 0,Q 11 (.len (.t 10)),Q 12 (.bin .lss (.t 9) (.t 11))] [0,3,5,6,12] [3,8,29,33,54])
 (.cond (.t 12) (.skip) (.exit 0)))
 (.seq (.block 1 (.seq (.gV [Qm 15 0,Qm 16 6,Qa 17 4 15 16,Qf 18 1 17,Ql 19 18,Qf 20 1 3,Ql 21 20,Q 22 (.bin .leq (.t 19) (.t 21))] [[],[],[0,1],[0,1,2],lr 4,[],[5],lr 7] [0,3,5,6,22] [3,8,29,33,54])
 (.cond (.t 22) (.ai [Qm 23 5,Qm 24 0,Qm 25 6,Qa 26 4 24 25,QL 27 4 26,Q 28 (.bF 4 1 [.int .i64 0,.int .i64 0,.aL 3,.str ⟨#[]⟩] [(0,.t 27)]),Q 29 (.app 4 56 (.t 23) (.t 28)),Qm 5 29] [0,3,5,6] [3,8,29,33,54]) (.skip))))
 (.ai [Qm 13 6,Q 14 (.bin .add (.t 13) (kI 1)),Qm 6 14] [0,3,5,6] [3,8,29,33,54]))
def cK.l1:C:= .seq (.seq (.ai [Qm 34 7,Qm 35 0,Q 36 (.len (.t 35)),Q 37 (.bin .lss (.t 34) (.t 36))] [0,3,5,7,37] [3,8,29,33,54])
 (.cond (.t 37) (.skip) (.exit 2)))
 (.seq (.block 3 (.seq (.gV [Qm 40 0,Qm 41 7,Qa 42 4 40 41,Qf 43 1 42,Ql 44 43,Qf 45 1 3,Ql 46 45,Q 47 (.bin .gtr (.t 44) (.t 46))] [[],[],[0,1],[0,1,2],lr 4,[],[5],lr 7] [0,3,5,7,47] [3,8,29,33,54])
 (.cond (.t 47) (.ai [Qm 48 5,Qm 49 0,Qm 50 7,Qa 51 4 49 50,QL 52 4 51,Q 53 (.bF 4 1 [.int .i64 0,.int .i64 0,.aL 3,.str ⟨#[]⟩] [(0,.t 52)]),Q 54 (.app 4 56 (.t 48) (.t 53)),Qm 5 54] [0,3,5,7] [3,8,29,33,54]) (.skip))))
 (.ai [Qm 38 7,Q 39 (.bin .add (.t 38) (kI 1)),Qm 7 39] [0,3,5,7] [3,8,29,33,54]))
def cK.b:C:= .seq (.ai [Qv 3 1,Q 4 (.nil 4)] [0,3] [3])
 (.seq (.ai [Q 8 (.bF 4 0 [.int .i64 0,.int .i64 0,.aL 3,.str ⟨#[]⟩] []),Qm 5 8] [0,3,5] [3,8,29,33,54])
 (.seq (.seq (.ai [Qi 6 0] [0,3,5,6] [3,8,29,33,54])
 (.block 0 (.loop cK.l0)))
 (.seq (.ai [Qm 30 5,QL 31 4 3,Q 32 (.bF 4 1 [.int .i64 0,.int .i64 0,.aL 3,.str ⟨#[]⟩] [(0,.t 31)]),Q 33 (.app 4 56 (.t 30) (.t 32)),Qm 5 33] [0,3,5] [3,8,29,33,54])
 (.seq (.seq (.ai [Qi 7 0] [0,3,5,7] [3,8,29,33,54])
 (.block 2 (.loop cK.l1)))
 (.seq (.ai [Qm 55 5,Qm 4 55] [4] [4,8,29,33,54])
 (.ret))))))
def cK.m:Fn:={np:=2,body:=cK.b,res:=[.tmp 4]}
def cK.k(M:Nat→Option Body):Prop:=M 462=some (.code cK.m)
def cP.l0:C:= .seq (.seq (.ai [Qm 21 9,Qm 22 8,Q 23 (.len (.t 22)),Q 24 (.bin .lss (.t 21) (.t 23))] [2,3,6,7,8,9,24] [2,3,17])
 (.cond (.t 24) (.skip) (.exit 0)))
 (.seq (.block 1 (.seq (.ai [Qm 27 8,Qm 28 9,Qa 29 1 27 28,Ql 30 29,Qm 10 30] [2,3,6,7,8,9,10] [2,3,17])
 (.seq (.seq (.ai [Qf 31 6 2,Ql 32 31,Qm 33 10,Q 34 (.call 132 [.t 32,.t 33] [] []),Qm 35 34,Qg 36 (.bN 6 (.t 3)) 35 false,Qg 37 (.load false 1 (.t 36)) 35 false,
   Qg 38 (.mv (.t 10)) 35 false,Qg 39 (.call 132 [.t 37,.t 38] [] []) 35 false,Q 40 (.pick (.t 35) (kB true) (.t 39))] [2,3,6,7,8,9,10,40] [2,3,17])
 (.cond (.t 40) (.exit 1) (.skip)))
 (.seq (.ai [QL 41 7 2,Qm 42 10,Q 43 (.call 91 [.t 41,.t 42] [] []),Qm 11 43] [2,3,6,7,8,9,10,11] [2,3,17])
 (.seq (.ai [QL 44 7 3,Qm 45 10,Q 46 (.call 91 [.t 44,.t 45] [] []),Qm 12 46] [2,3,6,7,8,9,10,11,12] [2,3,17])
 (.seq (.ai [Q 47 (.build [.int .i64 0,.int .i64 0,.aL 3,.str ⟨#[]⟩] []),Q 13 (.alloc [.int .i64 0,.int .i64 0,.aL 3,.str ⟨#[]⟩]),Qs 4 13 47] [2,3,6,7,8,9,10,11,12,13] [2,3,13,17])
 (.seq (.block 2 (.seq (.ai [Qm 55 11,Q 56 (.bin .geq (.t 55) (kI 0)),Qm 57 56,Qg 58 (.mv (.t 12)) 57 true,Qg 59 (.bin .geq (.t 58) (kI 0)) 57 true,Q 60 (.pick (.t 57) (.t 59) (kB false)),Qm 54 60] [2,3,6,7,8,9,10,11,12,13,54] [2,3,13,17])
 (.cond (.t 54) (.gV [Qf 61 5 2,Ql 62 61,Qm 63 11,Qa 64 4 62 63,QL 65 4 64,Qf 66 5 3,Ql 67 66,Qm 68 12,Qa 69 4 67 68,QL 70 4 69,Q 71 (.call 461 [.t 65,.t 70] [] []),Qs 4 13 71] [[],[0],[],[0,1,2],lr 4,[],[5],[],[5,6,7],[5,6,7,8],lr 10,lr 11] [2,3,6,7,8,9,10,11,12,13] [2,3,13,17]) (.seq (.ai [Qm 73 11,Q 74 (.bin .geq (.t 73) (kI 0)),Qm 72 74] [2,3,6,7,8,9,10,11,12,13,72] [2,3,13,17])
 (.cond (.t 72) (.ai [Qf 75 5 2,Ql 76 75,Qm 77 11,Qa 78 4 76 77,QL 79 4 78,Q 80 (.call 238 [.t 79] [] []),Qs 4 13 80] [2,3,6,7,8,9,10,11,12,13] [2,3,13,17]) (.ai [Qf 48 5 3,Ql 49 48,Qm 50 12,Qa 51 4 49 50,QL 52 4 51,Q 53 (.call 238 [.t 52] [] []),Qs 4 13 53] [2,3,6,7,8,9,10,11,12,13] [2,3,13,17]))))))
 (.seq (.seq (.ai [Qm 81 11,Q 82 (.bin .geq (.t 81) (kI 0)),Qm 83 82,Qg 84 (.load true 7 (.t 2)) 83 true,Qg 85 (.load true 7 (.t 3)) 83 true,Qg 86 (.mv (.t 10)) 83 true,
   Qg 87 (.call 22 [.t 84,.t 85,.t 86] [] []) 83 true,Qg 88 (.not (.t 87)) 83 true,Q 89 (.pick (.t 83) (.t 88) (kB false)),Qm 90 89,Qg 91 (.mv (.t 12)) 90 false,
   Qg 92 (.bin .geq (.t 91) (kI 0)) 90 false,Qg 93 (.mv (.t 92)) 90 false,Qg 94 (.load true 7 (.t 3)) 93 true,Qg 95 (.load true 7 (.t 2)) 93 true,Qg 96 (.mv (.t 10)) 93 true,
   Qg 97 (.call 22 [.t 94,.t 95,.t 96] [] []) 93 true,Qg 98 (.not (.t 97)) 93 true,Qg 99 (.pick (.t 93) (.t 98) (kB false)) 90 false,Q 100 (.pick (.t 90) (kB true) (.t 99))] [2,3,6,7,8,9,13,100] [2,3,13,17])
 (.cond (.t 100) (.seq (.ai [Qm 101 6,Qf 102 1 13,Qs 1 102 101] [2,3,6,7,8,9,13] [2,3,13,17])
 (.ai [Qm 103 6,Q 104 (.bin .add (.t 103) (kI 1)),Qm 6 104] [2,3,6,7,8,9,13] [2,3,13,17])) (.skip)))
 (.shut [17] (.ai [Qm 105 7,QL 106 4 13,Q 107 (.call 462 [.t 105,.t 106] [] [(0,17)]),Qm 7 107] [2,3,6,7,8,9] [2,3,17]))))))))))
 (.ai [Qm 25 9,Q 26 (.bin .add (.t 25) (kI 1)),Qm 9 26] [2,3,6,7,8,9] [2,3,17]))
def cP.b:C:= .seq (.ai [Qv 2 0,Qv 3 1,Q 4 (.nil 4),Qi 5 0] [2,3] [2,3])
 (.seq (.ai [QL 14 7 2,QL 15 7 3,Q 16 (.call 459 [.t 14,.t 15] [] []),Qm 6 16] [2,3,6] [2,3])
 (.seq (.ai [Q 17 (.bF 4 0 [.int .i64 0,.int .i64 0,.aL 3,.str ⟨#[]⟩] []),Qm 7 17] [2,3,6,7] [2,3,17])
 (.seq (.ai [QL 18 7 2,QL 19 7 3,Q 20 (.call 460 [.t 18,.t 19] [] []),Qm 8 20] [2,3,6,7,8] [2,3,17])
 (.seq (.seq (.ai [Qi 9 0] [2,3,6,7,8,9] [2,3,17])
 (.block 0 (.loop cP.l0)))
 (.seq (.ai [Qm 108 7,Qm 109 6,Qm 4 108,Qm 5 109] [4,5] [4,17])
 (.ret))))))
def cP.m:Fn:={np:=2,body:=cP.b,res:=[.tmp 4,.tmp 5]}
def cP.k(M:Nat→Option Body):Prop:=M 439=some (.code cP.m)∧dC.k M∧bI.k M∧bf.k M∧fD.k M∧gS.k M∧db.k M∧fq.k M∧cK.k M
def eE.b:C:= .seq (.ai [Qv 2 0,Qv 3 1,Q 4 (.alloc [.int .i64 0,.str ⟨#[]⟩,.int .i64 0,.int .i64 0,.int .i64 0,.aL 4,.aL 1])] [2,3,4] [2,3,4,11205,11206,12300,15300])
 (.seq (.seq (.ai [Qf 6 0 2,Ql 7 6,Qf 8 0 3,Ql 9 8,Q 10 (.bin .neq (.t 7) (.t 9))] [2,3,4,10] [2,3,4,11205,11206,12300,15300])
 (.cond (.t 10) (.seq (.ai [QL 11 7 2,Q 12 (.call 180 [.t 11] [] [(5,11205),(6,11206)]),Qs 7 4 12] [4] [4,11205,11206,12300,15300])
 (.ret)) (.skip)))
 (.seq (.gV [Qf 13 0 2,Ql 14 13,Qf 15 1 2,Ql 16 15,Qf 17 2 2,QL 18 2 17,Qf 19 6 2,Ql 20 19,Qf 21 6 3,Ql 22 21,Q 23 (.call 43 [.t 20,.t 22] [] [(0,12300)]),
   Q 24 (.build [.int .i64 0,.str ⟨#[]⟩,.int .i64 0,.int .i64 0,.int .i64 0,.aL 4,.aL 1] [(0,1,.t 14),(1,1,.t 16),(2,2,.t 18),(6,1,.t 23)]),
   Q 5 (.alloc [.int .i64 0,.str ⟨#[]⟩,.int .i64 0,.int .i64 0,.int .i64 0,.aL 4,.aL 1]),Qs 7 5 24] [[],[0],[],[2],[],[4],[],[6],[],[8],[6,7,8,9],lr 11,[],lr 13] [2,3,4,5] [2,3,4,5,11205,11206,12300,15300])
 (.seq (.seq (.ai [Qf 25 2 3,QL 26 2 25,Qf 27 2 2,QL 28 2 27,Q 29 (.call 277 [.t 26,.t 28] [] []),Qm 30 29,Qg 31 (.bN 2 (.t 2)) 30 false,Qg 32 (.load true 2 (.t 31)) 30 false,
   Qg 33 (.bN 2 (.t 3)) 30 false,Qg 34 (.load true 2 (.t 33)) 30 false,Qg 35 (.eqs false [.int,.int] (.t 32) (.t 34)) 30 false,Qg 36 (.mv (.t 35)) 30 false,
   Qg 37 (.bN 1 (.t 3)) 36 true,Qg 38 (.load false 1 (.t 37)) 36 true,Qg 39 (.bN 1 (.t 2)) 36 true,Qg 40 (.load false 1 (.t 39)) 36 true,
   Qg 41 (.bin .gtr (.t 38) (.t 40)) 36 true,Qg 42 (.pick (.t 36) (.t 41) (kB false)) 30 false,Q 43 (.pick (.t 30) (kB true) (.t 42))] [2,3,4,5,43] [2,3,4,5,11205,11206,12300,15300])
 (.cond (.t 43) (.seq (.ai [Qf 44 1 3,Ql 45 44,Qf 46 1 5,Qs 1 46 45] [2,3,4,5] [2,3,4,5,11205,11206,12300,15300])
 (.ai [Qf 47 2 3,QL 48 2 47,Qf 49 2 5,Qs 2 49 48] [2,3,4,5] [2,3,4,5,11205,11206,12300,15300])) (.skip)))
 (.seq (.ai [QL 51 7 2,QL 52 7 3,Q 53 (.call 439 [.t 51,.t 52] [] [(0,15300)]),Qm 50 53,Qx 54 0 50,Qx 55 1 50,Qf 56 5 5,Qs 1 56 54,Qf 57 4 5,Qs 1 57 55] [4,5] [4,5,11205,11206,12300,15300])
 (.seq (.ai [QL 58 7 5,Qs 7 4 58] [4] [4,11205,11206,12300,15300])
 (.ret))))))
def eE.m:Fn:={np:=2,body:=eE.b,res:=[.cell 4 true 7]}
def eE.k(M:Nat→Option Body):Prop:=M 405=some (.code eE.m)∧aT.k M∧bX.k M∧hQ.k M∧cP.k M
def gC.b:C:= .seq (.ai [Q 2 (.mv (.k (.int .u8 0)))] [0] [])
 (.seq (.seq (.ai [Qm 3 0,Q 4 (.bin .lss (.t 3) (kI 10))] [0,4] [])
 (.cond (.t 4) (.seq (.ai [Qm 5 0,Q 6 (.bin .add (kI 48) (.t 5)),Q 7 (.ry .u8 (.t 6)),Qm 2 7] [2] [])
 (.ret)) (.skip)))
 (.seq (.ai [Qm 8 0,Q 9 (.bin .add (kI 97) (.t 8)),Q 10 (.bin .sub (.t 9) (kI 10)),Q 11 (.ry .u8 (.t 10)),Qm 2 11] [2] [])
 (.ret)))
def gC.m:Fn:={np:=1,body:=gC.b,res:=[.tmp 2]}
def gC.k(M:Nat→Option Body):Prop:=M 247=some (.code gC.m)
def cQ.l0:C:= .seq (.seq (.ai [Qm 10 0,Q 11 (.bin .neq (.t 10) (kI 0))] [0,3,4,11] [])
 (.cond (.t 11) (.skip) (.exit 0)))
 (.block 1 (.seq (.ai [Qm 12 0,Q 13 (.bin .rem (.t 12) (kI 10)),Qm 5 13] [0,3,4,5] [])
 (.seq (.seq (.ai [Qm 14 5,Q 15 (.bin .lss (.t 14) (kI 0))] [0,3,4,5,15] [])
 (.cond (.t 15) (.ai [Qm 16 5,Q 17 (.neg (.t 16)),Qm 5 17] [0,3,4,5] []) (.skip)))
 (.seq (.ai [Qm 18 5,Q 19 (.call 247 [.t 18] [] []),Q 20 (.bF 1 1 [.int .u8 0] [(0,.t 19)]),Q 21 (.EI (.t 20)),Qm 22 4,Q 23 (.bin .add (.t 21) (.t 22)),Qm 4 23] [0,3,4] [])
 (.ai [Qm 24 0,Q 25 (.bin .quo (.t 24) (kI 10)),Qm 0 25] [0,3,4] [])))))
def cQ.b:C:= .seq (.ai [Q 2 (.mv (.k (.str ⟨#[]⟩)))] [0] [])
 (.seq (.seq (.ai [Qm 6 0,Q 7 (.bin .eql (.t 6) (kI 0))] [0,7] [])
 (.cond (.t 7) (.seq (.ai [Q 2 (.mv (.k (.str ⟨#[48]⟩)))] [2] [])
 (.ret)) (.skip)))
 (.seq (.ai [Qm 8 0,Q 9 (.bin .lss (.t 8) (kI 0)),Qm 3 9] [0,3] [])
 (.seq (.ai [Q 4 (.mv (.k (.str ⟨#[]⟩)))] [0,3,4] [])
 (.seq (.block 0 (.loop cQ.l0))
 (.seq (.seq (.ai [Qm 26 3] [4,26] [])
 (.cond (.t 26) (.seq (.ai [Qm 27 4,Q 28 (.bin .add (.k (.str ⟨#[45]⟩)) (.t 27)),Qm 2 28] [2] [])
 (.ret)) (.skip)))
 (.seq (.ai [Qm 29 4,Qm 2 29] [2] [])
 (.ret)))))))
def cQ.m:Fn:={np:=1,body:=cQ.b,res:=[.tmp 2]}
def cQ.k(M:Nat→Option Body):Prop:=M 197=some (.code cQ.m)∧gC.k M
def dh.l0:C:= .seq (.seq (.ai [Qm 9 4,Q 10 (.bin .neq (.t 9) (kI 0))] [0,3,4,10] [])
 (.cond (.t 10) (.skip) (.exit 0)))
 (.seq (.block 1 (.seq (.ai [Qm 13 4,Q 14 (.bin .rem (.t 13) (kI 10)),Qm 5 14] [0,3,4,5] [])
 (.seq (.ai [Qm 15 5,Qm 16 5,Q 17 (.neg (.t 16)),Q 18 (.max (.t 15) (.t 17)),Qm 5 18] [0,3,4,5] [])
 (.ai [Qm 19 5,Qm 20 5,Q 21 (.bin .add (.t 20) (kI 1)),Q 22 (.oB (.k (.str ⟨#[48,49,50,51,52,53,54,55,56,57,97,98,99,100,101,102]⟩)) (some (.t 19)) (some (.t 21))),
   Qm 23 3,Q 24 (.bin .add (.t 22) (.t 23)),Qm 3 24] [0,3,4] []))))
 (.ai [Qm 11 4,Q 12 (.bin .quo (.t 11) (kI 10)),Qm 4 12] [0,3,4] []))
def dh.b:C:= .seq (.ai [Q 2 (.mv (.k (.str ⟨#[]⟩)))] [0] [])
 (.seq (.seq (.ai [Qm 6 0,Q 7 (.bin .eql (.t 6) (kI 0))] [0,7] [])
 (.cond (.t 7) (.seq (.ai [Q 2 (.mv (.k (.str ⟨#[48]⟩)))] [2] [])
 (.ret)) (.skip)))
 (.seq (.ai [Q 3 (.mv (.k (.str ⟨#[]⟩)))] [0,3] [])
 (.seq (.seq (.ai [Qm 8 0,Qm 4 8] [0,3,4] [])
 (.block 0 (.loop dh.l0)))
 (.seq (.seq (.ai [Qm 25 0,Q 26 (.bin .lss (.t 25) (kI 0))] [3,26] [])
 (.cond (.t 26) (.ai [Qm 27 3,Q 28 (.bin .add (.k (.str ⟨#[45]⟩)) (.t 27)),Qm 3 28] [3] []) (.skip)))
 (.seq (.ai [Qm 29 3,Qm 2 29] [2] [])
 (.ret))))))
def dh.m:Fn:={np:=1,body:=dh.b,res:=[.tmp 2]}
def dh.k(M:Nat→Option Body):Prop:=M 128=some (.code dh.m)
def eH.b:C:= .seq (.ai [Qv 2 0,Qb 3 false] [1,2] [2])
 (.seq (.ai [Qf 4 0 2,Ql 5 4,Ql 6 1,Q 7 (.bin .eql (.t 5) (.t 6)),Qm 3 7] [3] [])
 (.ret))
def eH.m:Fn:={np:=2,body:=eH.b,res:=[.tmp 3]}
def eH.k(M:Nat→Option Body):Prop:=M 477=some (.code eH.m)
def eI.b:C:= .seq (.ai [Qv 3 1,Qi 4 0] [0,3] [3])
 (.seq (.ai [Qm 5 0,Q 6 (.tL 477 [.t 3]),Q 7 (.call 200 [.t 5,.t 6] [] []),Qm 4 7] [4] [])
 (.ret))
def eI.m:Fn:={np:=2,body:=eI.b,res:=[.tmp 4]}
def eI.k(M:Nat→Option Body):Prop:=M 476=some (.code eI.m)∧ay.k M∧eH.k M
def aF.l0:C:= .seq (.seq (.ai [Qm 16 6,Qm 17 0,Q 18 (.len (.t 17)),Q 19 (.bin .lss (.t 16) (.t 18))] [0,1,5,6,19] [0])
 (.cond (.t 19) (.skip) (.exit 0)))
 (.seq (.block 1 (.seq (.ai [Qm 22 0,Qm 23 6,Qa 24 7 22 23,QL 25 7 24,Q 7 (.alloc [.int .i64 0,.str ⟨#[]⟩,.int .i64 0,.int .i64 0,.int .i64 0,.aL 4,.aL 1]),Qs 7 7 25] [0,1,5,6,7] [0,7])
 (.seq (.ai [Qm 26 1,QL 27 7 7,Q 28 (.oO (.t 26) [.t 27]),Q 29 (.not (.t 28))] [0,1,5,6,7,29] [0,7])
 (.cond (.t 29) (.seq (.ai [Qm 30 0,Qm 31 5,QL 32 7 7,Qa 33 7 30 31,Qs 7 33 32] [0,1,5,6] [0])
 (.ai [Qm 34 5,Q 35 (.bin .add (.t 34) (kI 1)),Qm 5 35] [0,1,5,6] [0])) (.skip)))))
 (.ai [Qm 20 6,Q 21 (.bin .add (.t 20) (kI 1)),Qm 6 21] [0,1,5,6] [0]))
def aF.b:C:= .seq (.ai [Q 4 (.nil 7)] [0,1] [0])
 (.seq (.ai [Qm 8 0,Qm 9 1,Q 10 (.call 200 [.t 8,.t 9] [] []),Qm 5 10] [0,1,5] [0])
 (.seq (.seq (.ai [Qm 11 5,Q 12 (.bin .eql (.t 11) (kI (-1)))] [0,1,5,12] [0])
 (.cond (.t 12) (.seq (.ai [Qm 13 0,Qm 4 13] [4] [0,4])
 (.ret)) (.skip)))
 (.seq (.seq (.ai [Qm 14 5,Q 15 (.bin .add (.t 14) (kI 1)),Qm 6 15] [0,1,5,6] [0])
 (.block 0 (.loop aF.l0)))
 (.seq (.ai [Qm 36 0,Qm 37 5,Q 38 (.wL 7 (.t 36) (some (.t 37)) none none),Qn (.EH [.int .i64 0,.str ⟨#[]⟩,.int .i64 0,.int .i64 0,.int .i64 0,.aL 4,.aL 1] (.t 38))] [0,5] [0])
 (.seq (.ai [Qm 39 0,Qm 40 5,Q 41 (.wL 7 (.t 39) none (some (.t 40)) none),Qm 4 41] [4] [0,4])
 (.ret))))))
def aF.m:Fn:={np:=2,body:=aF.b,res:=[.tmp 4]}
def aF.k(M:Nat→Option Body):Prop:=M 478=some (.code aF.m)∧ay.k M
def fj.b:C:= .seq (.ai [Qv 2 0,Qb 3 false] [1,2] [2])
 (.seq (.ai [Ql 4 1,Qf 5 0 2,Ql 6 5,Q 7 (.call 156 [.t 4,.t 6] [] []),Qm 3 7] [3] [])
 (.ret))
def fj.m:Fn:={np:=2,body:=fj.b,res:=[.tmp 3]}
def fj.k(M:Nat→Option Body):Prop:=M 479=some (.code fj.m)∧aI.k M
def ar.l1:C:= .seq (.seq (.gV [Qm 18 9,Qm 19 1,Q 20 (.bin .gtr (.t 18) (.t 19)),Qm 21 20,Qg 22 (.mv (.t 3)) 21 true,Qg 23 (.mv (.t 0)) 21 true,Qg 24 (.mv (.t 9)) 21 true,
    Qg 25 (.kG 7 (.t 23) (.t 24)) 21 true,Qg 26 (.load true 7 (.t 25)) 21 true,Qg 27 (.mv (.t 0)) 21 true,Qg 28 (.mv (.t 9)) 21 true,Qg 29 (.bin .sub (.t 28) (kI 1)) 21 true,
    Qg 30 (.kG 7 (.t 27) (.t 29)) 21 true,Qg 31 (.load true 7 (.t 30)) 21 true,Qg 32 (.oO (.t 22) [.t 26,.t 31]) 21 true,Qg 33 (.bin .lss (.t 32) (kI 0)) 21 true,
    Q 34 (.pick (.t 21) (.t 33) (kB false))] [[],[],[0,1],[0,1,2],lr 4,lr 4,lr 4,lr 4++[5,6],lr 4++[5,6,7],lr 4,lr 4,lr 4++[10],lr 4++[9,10,11],lr 4++[9,10,11,12],lr 14,lr 15,lr 16] [0,1,2,3,8,9,34] [0])
 (.cond (.t 34) (.skip) (.exit 2)))
 (.seq (.block 3 (.gV [Qm 37 0,Qm 38 9,Qm 39 0,Qm 40 9,Q 41 (.bin .sub (.t 40) (kI 1)),Qm 42 0,Qm 43 9,Q 44 (.bin .sub (.t 43) (kI 1)),Qa 45 7 42 44,QL 46 7 45,Qm 47 0,Qm 48 9,Qa 49 7 47 48,
   QL 50 7 49,Qa 51 7 37 38,Qs 7 51 46,Qa 52 7 39 41,Qs 7 52 50] [[],[],[],[],[3],[],[],[6],[5,6,7],[5,6,7,8],[],[],[10,11],[10,11,12],[0,1,5,6,7,8,9,10,11,12,13],[0,1,5,6,7,8,9,10,11,12,13,14],lr 16,lr 17] [0,1,2,3,8,9] [0]))
 (.ai [Qm 35 9,Q 36 (.bin .sub (.t 35) (kI 1)),Qm 9 36] [0,1,2,3,8,9] [0]))
def ar.l0:C:= .seq (.seq (.ai [Qm 12 8,Qm 13 2,Q 14 (.bin .lss (.t 12) (.t 13))] [0,1,2,3,8,14] [0])
 (.cond (.t 14) (.skip) (.exit 0)))
 (.seq (.block 1 (.seq (.ai [Qm 17 8,Qm 9 17] [0,1,2,3,8,9] [0])
 (.block 2 (.loop ar.l1))))
 (.ai [Qm 15 8,Q 16 (.bin .add (.t 15) (kI 1)),Qm 8 16] [0,1,2,3,8] [0]))
def ar.b:C:= .seq (.ai [Qm 10 1,Q 11 (.bin .add (.t 10) (kI 1)),Qm 8 11] [0,1,2,3,8] [0])
 (.block 0 (.loop ar.l0))
def ar.m:Fn:={np:=4,body:=ar.b,res:=[]}
def ar.k(M:Nat→Option Body):Prop:=M 492=some (.code ar.m)
def aP.l0:C:= .seq (.seq (.ai [Qm 11 8,Qm 12 1,Q 13 (.bin .leq (.t 11) (.t 12))] [0,1,2,6,7,8,13] [0])
 (.cond (.t 13) (.skip) (.exit 0)))
 (.block 1 (.seq (.ai [Qm 14 0,Qm 15 7,Qm 16 8,Qm 17 2,Q 18 (.call 492 [.t 14,.t 15,.t 16,.t 17] [0] [])] [0,1,2,6,8] [0])
 (.seq (.ai [Qm 19 8,Qm 7 19] [0,1,2,6,7,8] [0])
 (.ai [Qm 20 8,Qm 21 6,Q 22 (.bin .add (.t 20) (.t 21)),Qm 8 22] [0,1,2,6,7,8] [0]))))
def aP.l2:C:= .seq (.seq (.ai [Qm 33 8,Qm 34 1,Q 35 (.bin .leq (.t 33) (.t 34))] [0,1,2,6,7,8,35] [0])
 (.cond (.t 35) (.skip) (.exit 4)))
 (.block 5 (.seq (.ai [Qm 36 0,Qm 37 7,Qm 38 7,Qm 39 6,Q 40 (.bin .add (.t 38) (.t 39)),Qm 41 8,Qm 42 2,Q 43 (.call 493 [.t 36,.t 37,.t 40,.t 41,.t 42] [0] [])] [0,1,2,6,8] [0])
 (.seq (.ai [Qm 44 8,Qm 7 44] [0,1,2,6,7,8] [0])
 (.ai [Qm 45 8,Qm 46 6,Q 47 (.bin .mul (kI 2) (.t 46)),Q 48 (.bin .add (.t 45) (.t 47)),Qm 8 48] [0,1,2,6,7,8] [0]))))
def aP.l1:C:= .seq (.seq (.ai [Qm 28 6,Qm 29 1,Q 30 (.bin .lss (.t 28) (.t 29))] [0,1,2,6,30] [0])
 (.cond (.t 30) (.skip) (.exit 2)))
 (.block 3 (.seq (.ai [Qm 31 6,Q 32 (.bin .mul (kI 2) (.t 31)),Qi 7 0,Qm 8 32] [0,1,2,6,7,8] [0])
 (.seq (.block 4 (.loop aP.l2))
 (.seq (.seq (.ai [Qm 49 7,Qm 50 6,Q 51 (.bin .add (.t 49) (.t 50)),Qm 9 51] [0,1,2,6,7,9] [0])
 (.seq (.ai [Qm 52 9,Qm 53 1,Q 54 (.bin .lss (.t 52) (.t 53))] [0,1,2,6,7,9,54] [0])
 (.cond (.t 54) (.ai [Qm 55 0,Qm 56 7,Qm 57 9,Qm 58 1,Qm 59 2,Q 60 (.call 493 [.t 55,.t 56,.t 57,.t 58,.t 59] [0] [])] [0,1,2,6] [0]) (.skip))))
 (.ai [Qm 61 6,Q 62 (.bin .mul (.t 61) (kI 2)),Qm 6 62] [0,1,2,6] [0])))))
def aP.b:C:= .seq (.ai [Qi 6 20] [0,1,2,6] [0])
 (.seq (.ai [Qm 10 6,Qi 7 0,Qm 8 10] [0,1,2,6,7,8] [0])
 (.seq (.block 0 (.loop aP.l0))
 (.seq (.ai [Qm 23 0,Qm 24 7,Qm 25 1,Qm 26 2,Q 27 (.call 492 [.t 23,.t 24,.t 25,.t 26] [0] [])] [0,1,2,6] [0])
 (.block 2 (.loop aP.l1)))))
def aP.m:Fn:={np:=3,body:=aP.b,res:=[]}
def aP.k(M:Nat→Option Body):Prop:=M 490=some (.code aP.m)∧ar.k M
def aZ.b:C:= .ai [Qm 4 0,Qm 5 0,Q 6 (.len (.t 5)),Qm 7 1,Q 8 (.call 490 [.t 4,.t 6,.t 7] [0] [])] [] [0]
def aZ.m:Fn:={np:=2,body:=aZ.b,res:=[]}
def aZ.k(M:Nat→Option Body):Prop:=M 480=some (.code aZ.m)∧aP.k M
def fi.b:C:= .seq (.ai [Qv 2 0,Qv 3 1,Qi 4 0] [2,3] [2,3])
 (.seq (.ai [Qf 5 0 2,Ql 6 5,Qf 7 0 3,Ql 8 7,Q 9 (.call 457 [.t 6,.t 8] [] []),Qm 4 9] [4] [])
 (.ret))
def fi.m:Fn:={np:=2,body:=fi.b,res:=[.tmp 4]}
def fi.k(M:Nat→Option Body):Prop:=M 481=some (.code fi.m)∧eZ.k M
def bd.b:C:= .seq (.ai [Qb 4 false] [0,1] [])
 (.seq (.ai [Qm 5 0,Qm 6 1,Q 7 (.call 200 [.t 5,.t 6] [] []),Q 8 (.bin .geq (.t 7) (kI 0)),Qm 4 8] [4] [])
 (.ret))
def bd.m:Fn:={np:=2,body:=bd.b,res:=[.tmp 4]}
def bd.k(M:Nat→Option Body):Prop:=M 482=some (.code bd.m)∧ay.k M
def fh.b:C:= .seq (.ai [Qv 2 0,Qb 3 false] [1,2] [2])
 (.seq (.ai [Qf 4 1 2,Ql 5 4,Qf 6 1 1,Ql 7 6,Q 8 (.bin .eql (.t 5) (.t 7)),Qm 3 8] [3] [])
 (.ret))
def fh.m:Fn:={np:=2,body:=fh.b,res:=[.tmp 3]}
def fh.k(M:Nat→Option Body):Prop:=M 483=some (.code fh.m)
def cB.b:C:= .seq (.ai [Q 4 (.mv (.k (.str ⟨#[]⟩)))] [0,1] [])
 (.seq (.ai [Qm 7 0,Qm 8 0,Q 9 (.ky (.t 8)),Q 10 (.min (kI 6) (.t 9)),Q 11 (.oB (.t 7) none (some (.t 10))),Q 12 (.bin .add (.t 11) (.k (.str ⟨#[120]⟩))),Qm 5 12] [1,5] [])
 (.seq (.seq (.ai [Qm 13 1,Q 14 (.bin .gtr (.t 13) (kI 0))] [1,5,14] [])
 (.cond (.t 14) (.seq (.ai [Qm 15 1,Q 16 (.call 128 [.t 15] [] []),Qm 6 16] [5,6] [])
 (.ai [Qm 17 5,Qm 18 6,Qm 19 6,Q 20 (.ky (.t 19)),Q 21 (.bin .sub (.t 20) (kI 5)),Q 22 (.max (kI 0) (.t 21)),Q 23 (.oB (.t 18) (some (.t 22)) none),
   Q 24 (.bin .add (.t 17) (.t 23)),Qm 5 24] [5] [])) (.skip)))
 (.seq (.ai [Qm 25 5,Qm 4 25] [4] [])
 (.ret))))
def cB.m:Fn:={np:=2,body:=cB.b,res:=[.tmp 4]}
def cB.k(M:Nat→Option Body):Prop:=M 484=some (.code cB.m)∧dh.k M
def bp.l0:C:= .seq (.ai [Q 20 (.bin .lss (.t 19) (.t 18))] [0,1,5,7,8,17,18,19,20] [5,16,40,58,16200])
 (.seq (.cond (.t 20) (.skip) (.exit 0))
 (.seq (.block 1 (.seq (.ai [Qa 21 7 17 19,QL 22 7 21,Q 10 (.alloc [.int .i64 0,.str ⟨#[]⟩,.int .i64 0,.int .i64 0,.int .i64 0,.aL 4,.aL 1]),Qs 7 10 22] [0,1,5,7,8,10,17,18,19] [5,10,16,40,58,16200])
 (.seq (.seq (.ai [Qm 23 8,Qm 24 1,Qf 25 0 10,Ql 26 25,Q 27 (.oO (.t 23) [.t 24,.t 26]),Qm 11 27] [0,1,5,7,8,10,11,17,18,19] [5,10,16,40,58,16200])
 (.seq (.ai [Qm 28 11,Q 29 (.bin .geq (.t 28) (kI 0))] [0,1,5,7,8,10,11,17,18,19,29] [5,10,16,40,58,16200])
 (.cond (.t 29) (.gV [QL 30 7 10,Qm 31 1,Qm 32 11,Qa 33 7 31 32,QL 34 7 33,Q 35 (.call 401 [.t 30,.t 34] [] []),Qs 7 10 35] [[],[],[],[1,2],[1,2,3],lr 5,lr 6] [0,1,5,7,8,10,17,18,19] [5,10,16,40,58,16200]) (.skip))))
 (.ai [Qm 36 7,QL 37 7 10,Q 38 (.call 155 [.t 37] [] []),Q 39 (.bF 7 1 [.int .i64 0,.str ⟨#[]⟩,.int .i64 0,.int .i64 0,.int .i64 0,.aL 4,.aL 1] [(0,.t 38)]),
   Q 40 (.app 7 96 (.t 36) (.t 39)),Qm 7 40] [0,1,5,7,8,17,18,19] [5,16,40,58,16200]))))
 (.ai [Q 41 (.bin .add (.t 19) (kI 1)),Qm 19 41] [0,1,5,7,8,17,18,19] [5,16,40,58,16200])))
def bp.l1:C:= .seq (.ai [Q 45 (.bin .lss (.t 44) (.t 43))] [0,5,7,8,42,43,44,45] [5,16,40,58,16200])
 (.seq (.cond (.t 45) (.skip) (.exit 2))
 (.seq (.block 3 (.seq (.ai [Qa 46 7 42 44,QL 47 7 46,Q 13 (.alloc [.int .i64 0,.str ⟨#[]⟩,.int .i64 0,.int .i64 0,.int .i64 0,.aL 4,.aL 1]),Qs 7 13 47] [0,5,7,8,13,42,43,44] [5,13,16,40,58,16200])
 (.seq (.ai [Qm 48 8,Qm 49 0,Qf 50 0 13,Ql 51 50,Q 52 (.oO (.t 48) [.t 49,.t 51]),Q 53 (.bin .lss (.t 52) (kI 0))] [0,5,7,8,13,42,43,44,53] [5,13,16,40,58,16200])
 (.cond (.t 53) (.ai [Qm 54 7,QL 55 7 13,Q 56 (.call 155 [.t 55] [] []),Q 57 (.bF 7 1 [.int .i64 0,.str ⟨#[]⟩,.int .i64 0,.int .i64 0,.int .i64 0,.aL 4,.aL 1] [(0,.t 56)]),
   Q 58 (.app 7 96 (.t 54) (.t 57)),Qm 7 58] [0,5,7,8,42,43,44] [5,16,40,58,16200]) (.skip)))))
 (.ai [Q 59 (.bin .add (.t 44) (kI 1)),Qm 44 59] [0,5,7,8,42,43,44] [5,16,40,58,16200])))
def bp.l2:C:= .seq (.ai [Q 68 (.bin .lss (.t 67) (.t 66))] [7,65,66,67,68] [16,40,58,16200])
 (.seq (.cond (.t 68) (.skip) (.exit 4))
 (.seq (.block 5 (.seq (.ai [Qm 69 67,Qa 70 7 65 67,QL 71 7 70,Q 15 (.alloc [.int .i64 0,.str ⟨#[]⟩,.int .i64 0,.int .i64 0,.int .i64 0,.aL 4,.aL 1]),Qm 14 69,Qs 7 15 71] [7,14,15,65,66,67] [15,16,40,58,16200])
 (.seq (.ai [Qm 72 7,Qm 73 14,Q 74 (.wL 7 (.t 72) none (some (.t 73)) none),Q 75 (.tL 483 [.t 15]),Q 76 (.call 482 [.t 74,.t 75] [] [])] [7,14,15,65,66,67,76] [15,16,40,58,16200])
 (.cond (.t 76) (.ai [Qm 77 7,Qm 78 14,Qf 79 1 15,Ql 80 79,Qf 81 0 15,Ql 82 81,Q 83 (.call 484 [.t 80,.t 82] [] []),Qa 84 7 77 78,Qf 85 1 84,Qs 1 85 83] [7,65,66,67] [16,40,58,16200]) (.skip)))))
 (.ai [Q 86 (.bin .add (.t 67) (kI 1)),Qm 67 86] [7,65,66,67] [16,40,58,16200])))
def bp.b:C:= .seq (.ai [Qv 5 2,Q 6 (.nil 7)] [0,1,5] [5])
 (.seq (.ai [Q 16 (.bF 7 0 [.int .i64 0,.str ⟨#[]⟩,.int .i64 0,.int .i64 0,.int .i64 0,.aL 4,.aL 1] []),Qm 7 16] [0,1,5,7] [5,16,40,58,16200])
 (.seq (.ai [Q 8 (.mv (.fn 476))] [0,1,5,7,8] [5,16,40,58,16200])
 (.seq (.seq (.ai [Qm 17 0,Q 18 (.len (.t 17)),Qi 19 0] [0,1,5,7,8,17,18,19] [5,16,40,58,16200])
 (.block 0 (.loop bp.l0)))
 (.seq (.seq (.ai [Qm 42 1,Q 43 (.len (.t 42)),Qi 44 0] [0,5,7,8,42,43,44] [5,16,40,58,16200])
 (.block 2 (.loop bp.l1)))
 (.seq (.shut [5] (.ai [Qm 60 7,Q 61 (.tL 479 [.t 5]),Q 62 (.call 478 [.t 60,.t 61] [0] [(0,16200)]),Qm 7 62] [7] [16,40,58,16200]))
 (.seq (.ai [Qm 63 7,Q 64 (.call 480 [.t 63,.fn 481] [0] [])] [7] [16,40,58,16200])
 (.seq (.seq (.ai [Qm 65 7,Q 66 (.len (.t 65)),Qi 67 0] [7,65,66,67] [16,40,58,16200])
 (.block 4 (.loop bp.l2)))
 (.seq (.ai [Qm 87 7,Qm 6 87] [6] [6,16,40,58,16200])
 (.ret)))))))))
def bp.m:Fn:={np:=3,body:=bp.b,res:=[.tmp 6]}
def bp.k(M:Nat→Option Body):Prop:=M 467=some (.code bp.m)∧cm.k M∧gE.k M∧eI.k M∧aF.k M∧fj.k M∧aZ.k M∧fi.k M∧bd.k M∧fh.k M∧cB.k M
def bz.l1:C:= .seq (.ai [Q 49 (.bin .lss (.t 48) (.t 47))] [4,6,7,8,9,10,37,38,39,46,47,48,49] [4,6,9,35,44,60,73,11900,13300])
 (.seq (.cond (.t 49) (.skip) (.exit 2))
 (.seq (.block 3 (.seq (.ai [Qa 50 4 46 48,QL 51 4 50,Q 12 (.alloc [.int .i64 0,.int .i64 0,.aL 3,.str ⟨#[]⟩]),Qs 4 12 51] [4,6,7,8,9,10,12,37,38,39,46,47,48] [4,6,9,12,35,44,60,73,11900,13300])
 (.seq (.ai [Qm 52 7,Qf 53 0 12,Ql 54 53,Q 55 (.call 156 [.t 52,.t 54] [] []),Q 56 (.not (.t 55))] [4,6,7,8,9,10,12,37,38,39,46,47,48,56] [4,6,9,12,35,44,60,73,11900,13300])
 (.cond (.t 56) (.ai [Qm 57 10,QL 58 4 12,Q 59 (.bF 4 1 [.int .i64 0,.int .i64 0,.aL 3,.str ⟨#[]⟩] [(0,.t 58)]),Q 60 (.app 4 56 (.t 57) (.t 59)),Qm 10 60] [4,6,7,8,9,10,37,38,39,46,47,48] [4,6,9,35,44,60,73,11900,13300]) (.skip)))))
 (.ai [Q 61 (.bin .add (.t 48) (kI 1)),Qm 48 61] [4,6,7,8,9,10,37,38,39,46,47,48] [4,6,9,35,44,60,73,11900,13300])))
def bz.l2:C:= .seq (.ai [Q 66 (.bin .lss (.t 65) (.t 64))] [4,6,7,8,10,37,38,39,63,64,65,66] [4,6,35,44,60,73,11900,13300])
 (.seq (.cond (.t 66) (.skip) (.exit 4))
 (.seq (.block 5 (.seq (.ai [Qa 67 4 63 65,QL 68 4 67,Q 14 (.alloc [.int .i64 0,.int .i64 0,.aL 3,.str ⟨#[]⟩]),Qs 4 14 68] [4,6,7,8,10,14,37,38,39,63,64,65] [4,6,14,35,44,60,73,11900,13300])
 (.ai [Qm 69 7,Qf 70 0 14,Ql 71 70,Q 72 (.bF 1 1 [.int .i64 0] [(0,.t 71)]),Q 73 (.app 1 8 (.t 69) (.t 72)),Qm 7 73] [4,6,7,8,10,37,38,39,63,64,65] [4,6,35,44,60,73,11900,13300])))
 (.ai [Q 74 (.bin .add (.t 65) (kI 1)),Qm 65 74] [4,6,7,8,10,37,38,39,63,64,65] [4,6,35,44,60,73,11900,13300])))
def bz.l0:C:= .seq (.ai [Q 40 (.bin .lss (.t 39) (.t 38))] [4,6,7,37,38,39,40] [4,6,35,73,11900,13300])
 (.seq (.cond (.t 40) (.skip) (.exit 0))
 (.seq (.block 1 (.seq (.ai [Qm 41 39,Qa 42 7 37 39,QL 43 7 42,Q 9 (.alloc [.int .i64 0,.str ⟨#[]⟩,.int .i64 0,.int .i64 0,.int .i64 0,.aL 4,.aL 1]),Qm 8 41,Qs 7 9 43] [4,6,7,8,9,37,38,39] [4,6,9,35,73,11900,13300])
 (.seq (.ai [Q 44 (.bF 4 0 [.int .i64 0,.int .i64 0,.aL 3,.str ⟨#[]⟩] []),Qm 10 44] [4,6,7,8,9,10,37,38,39] [4,6,9,35,44,60,73,11900,13300])
 (.seq (.seq (.ai [Qf 45 5 9,Ql 46 45,Q 47 (.len (.t 46)),Qi 48 0] [4,6,7,8,9,10,37,38,39,46,47,48] [4,6,9,35,44,60,73,11900,13300])
 (.block 2 (.loop bz.l1)))
 (.seq (.seq (.ai [Qf 62 5 9,Ql 63 62,Q 64 (.len (.t 63)),Qi 65 0] [4,6,7,8,10,37,38,39,63,64,65] [4,6,35,44,60,73,11900,13300])
 (.block 4 (.loop bz.l2)))
 (.shut [44,60] (.ai [Qf 75 2 6,Ql 76 75,Qm 77 8,Qm 78 10,Qa 79 7 76 77,Qf 80 5 79,Qs 1 80 78] [4,6,7,37,38,39] [4,6,35,73,11900,13300])))))))
 (.ai [Q 81 (.bin .add (.t 39) (kI 1)),Qm 39 81] [4,6,7,37,38,39] [4,6,35,73,11900,13300])))
def bz.b:C:= .seq (.ai [Qv 2 0,Qv 3 1,Q 4 (.alloc [.int .i64 0,.int .i64 0,.aL 7,.aL 1])] [2,3,4] [2,3,4,11900,13300])
 (.seq (.ai [Qf 15 3 2,Ql 16 15,Qf 17 3 3,Ql 18 17,Q 19 (.call 44 [.t 16,.t 18] [] [(0,11900)]),Qm 5 19] [2,3,4,5] [2,3,4,11900,13300])
 (.seq (.shut [11900] (.gV [Qf 20 0 2,Ql 21 20,Qf 22 1 2,Ql 23 22,Qf 24 1 3,Ql 25 24,Q 26 (.max (.t 23) (.t 25)),Qm 27 5,Qf 28 2 2,Ql 29 28,Qf 30 2 3,Ql 31 30,Qm 32 5,
   Q 33 (.call 467 [.t 29,.t 31,.t 32] [] [(0,13300)]),Q 34 (.build [.int .i64 0,.int .i64 0,.aL 7,.aL 1] [(0,1,.t 21),(1,1,.t 26),(3,1,.t 27),(2,1,.t 33)]),
   Q 6 (.alloc [.int .i64 0,.int .i64 0,.aL 7,.aL 1]),Qs 4 6 34] [[],[0],[],[2],[],[4],[2,3,4,5],[],[],[8],[],[10],[],[8,9,10,11,12],lr 14,[],lr 16] [4,6] [4,6,11900,13300]))
 (.seq (.ai [Q 35 (.bF 1 0 [.int .i64 0] []),Qm 7 35] [4,6,7] [4,6,35,73,11900,13300])
 (.seq (.seq (.ai [Qf 36 2 6,Ql 37 36,Q 38 (.len (.t 37)),Qi 39 0] [4,6,7,37,38,39] [4,6,35,73,11900,13300])
 (.block 0 (.loop bz.l0)))
 (.seq (.ai [QL 82 4 6,Qs 4 4 82] [4] [4,11900,13300])
 (.ret))))))
def bz.m:Fn:={np:=2,body:=bz.b,res:=[.cell 4 true 4]}
def bz.k(M:Nat→Option Body):Prop:=M 447=some (.code bz.m)∧fv.k M∧aI.k M∧bp.k M
def fe.b:C:= .seq (.ai [Qv 2 0,Qv 3 1,Qb 4 false] [2,3] [2,3])
 (.seq (.ai [QL 5 4 2,Q 6 (.call 150 [.t 5] [] []),Qm 7 6,Qg 8 (.load true 4 (.t 3)) 7 true,Qg 9 (.call 150 [.t 8] [] []) 7 true,Q 10 (.pick (.t 7) (.t 9) (kB false)),Qm 11 10,
   Qg 12 (.load true 4 (.t 2)) 11 true,Qg 13 (.load true 4 (.t 3)) 11 true,Qg 14 (.call 447 [.t 12,.t 13] [] []) 11 true,Qg 15 (.call 150 [.t 14] [] []) 11 true,
   Q 16 (.pick (.t 11) (.t 15) (kB false)),Qm 4 16] [4] [])
 (.ret))
def fe.m:Fn:={np:=2,body:=fe.b,res:=[.tmp 4]}
def fe.k(M:Nat→Option Body):Prop:=M 433=some (.code fe.m)∧aK.k M∧bz.k M
def fU.l0:C:= .seq (.seq (.ai [Qm 6 5,Qm 7 0,Q 8 (.len (.t 7)),Q 9 (.bin .lss (.t 6) (.t 8))] [0,1,5,9] [])
 (.cond (.t 9) (.skip) (.exit 0)))
 (.seq (.block 1 (.seq (.ai [Qm 12 0,Qm 13 5,Qa 14 7 12 13,Qf 15 0 14,Ql 16 15,Qm 17 1,Q 18 (.bin .eql (.t 16) (.t 17))] [0,1,5,18] [])
 (.cond (.t 18) (.seq (.ai [Qm 19 5,Qm 4 19] [4] [])
 (.ret)) (.skip))))
 (.ai [Qm 10 5,Q 11 (.bin .add (.t 10) (kI 1)),Qm 5 11] [0,1,5] []))
def fU.b:C:= .seq (.ai [Qi 4 0] [0,1] [])
 (.seq (.seq (.ai [Qi 5 0] [0,1,5] [])
 (.block 0 (.loop fU.l0)))
 (.seq (.ai [Qi 4 (-1)] [4] [])
 (.ret)))
def fU.m:Fn:={np:=2,body:=fU.b,res:=[.tmp 4]}
def fU.k(M:Nat→Option Body):Prop:=M 474=some (.code fU.m)
def cr.b:C:= .seq (.ai [Q 4 (.mv (.k (.str ⟨#[]⟩)))] [0,1] [])
 (.seq (.ai [Qm 7 0,Qm 5 7] [1,5] [])
 (.seq (.seq (.ai [Qm 8 5,Q 9 (.ky (.t 8)),Q 10 (.bin .gtr (.t 9) (kI 6))] [1,5,10] [])
 (.cond (.t 10) (.ai [Qm 11 5,Q 12 (.oB (.t 11) none (some (kI 6))),Qm 5 12] [1,5] []) (.skip)))
 (.seq (.ai [Q 6 (.mv (.k (.str ⟨#[]⟩)))] [1,5,6] [])
 (.seq (.seq (.ai [Qm 13 1,Q 14 (.bin .gtr (.t 13) (kI 0))] [1,5,6,14] [])
 (.cond (.t 14) (.ai [Qm 15 1,Q 16 (.call 197 [.t 15] [] []),Qm 6 16] [5,6] []) (.skip)))
 (.seq (.seq (.ai [Qm 17 6,Q 18 (.ky (.t 17)),Q 19 (.bin .gtr (.t 18) (kI 5))] [5,6,19] [])
 (.cond (.t 19) (.ai [Qm 20 6,Qm 21 6,Q 22 (.ky (.t 21)),Q 23 (.bin .sub (.t 22) (kI 5)),Q 24 (.oB (.t 20) (some (.t 23)) none),Qm 6 24] [5,6] []) (.skip)))
 (.seq (.ai [Qm 25 5,Q 26 (.bin .add (.t 25) (.k (.str ⟨#[120]⟩))),Qm 27 6,Q 28 (.bin .add (.t 26) (.t 27)),Qm 4 28] [4] [])
 (.ret)))))))
def cr.m:Fn:={np:=2,body:=cr.b,res:=[.tmp 4]}
def cr.k(M:Nat→Option Body):Prop:=M 475=some (.code cr.m)∧cQ.k M
def aW.l0:C:= .seq (.seq (.ai [Qm 17 8,Qm 18 0,Q 19 (.len (.t 18)),Q 20 (.bin .lss (.t 17) (.t 19))] [0,1,2,7,8,20] [16])
 (.cond (.t 20) (.skip) (.exit 0)))
 (.seq (.block 1 (.seq (.ai [Qm 23 7,Qm 24 0,Qm 25 8,Qa 26 7 24 25,Qf 27 0 26,Ql 28 27,Q 29 (.call 132 [.t 23,.t 28] [] []),Q 30 (.not (.t 29))] [0,1,2,7,8,30] [16])
 (.cond (.t 30) (.ai [Qm 31 7,Qm 32 0,Qm 33 8,Qa 34 7 32 33,Qf 35 0 34,Ql 36 35,Q 37 (.call 133 [.t 31,.t 36] [] [(0,16)]),Qm 7 37] [0,1,2,7,8] [16]) (.skip))))
 (.ai [Qm 21 8,Q 22 (.bin .add (.t 21) (kI 1)),Qm 8 22] [0,1,2,7,8] [16]))
def aW.l1:C:= .seq (.seq (.ai [Qm 38 9,Qm 39 1,Q 40 (.len (.t 39)),Q 41 (.bin .lss (.t 38) (.t 40))] [0,1,2,7,9,41] [16])
 (.cond (.t 41) (.skip) (.exit 2)))
 (.seq (.block 3 (.seq (.ai [Qm 44 7,Qm 45 1,Qm 46 9,Qa 47 7 45 46,Qf 48 0 47,Ql 49 48,Q 50 (.call 132 [.t 44,.t 49] [] []),Q 51 (.not (.t 50))] [0,1,2,7,9,51] [16])
 (.cond (.t 51) (.ai [Qm 52 7,Qm 53 1,Qm 54 9,Qa 55 7 53 54,Qf 56 0 55,Ql 57 56,Q 58 (.call 133 [.t 52,.t 57] [] [(0,16)]),Qm 7 58] [0,1,2,7,9] [16]) (.skip))))
 (.ai [Qm 42 9,Q 43 (.bin .add (.t 42) (kI 1)),Qm 9 43] [0,1,2,7,9] [16]))
def aW.l2:C:= .seq (.seq (.ai [Qm 60 11,Qm 61 7,Q 62 (.len (.t 61)),Q 63 (.bin .lss (.t 60) (.t 62))] [0,1,2,7,10,11,63] [16,59,91,110,121])
 (.cond (.t 63) (.skip) (.exit 4)))
 (.seq (.block 5 (.seq (.seq (.ai [Qm 66 2,Qm 67 7,Qm 68 11,Qa 69 1 67 68,Ql 70 69,Q 71 (.call 132 [.t 66,.t 70] [] [])] [0,1,2,7,10,11,71] [16,59,91,110,121])
 (.cond (.t 71) (.exit 5) (.skip)))
 (.seq (.ai [Qm 72 0,Qm 73 7,Qm 74 11,Qa 75 1 73 74,Ql 76 75,Q 77 (.call 474 [.t 72,.t 76] [] []),Qm 12 77] [0,1,2,7,10,11,12] [16,59,91,110,121])
 (.seq (.ai [Qm 78 1,Qm 79 7,Qm 80 11,Qa 81 1 79 80,Ql 82 81,Q 83 (.call 474 [.t 78,.t 82] [] []),Qm 13 83] [0,1,2,7,10,11,12,13] [16,59,91,110,121])
 (.block 6 (.seq (.ai [Qm 93 12,Q 94 (.bin .geq (.t 93) (kI 0)),Qm 95 94,Qg 96 (.mv (.t 13)) 95 true,Qg 97 (.bin .geq (.t 96) (kI 0)) 95 true,Q 98 (.pick (.t 95) (.t 97) (kB false)),Qm 92 98] [0,1,2,7,10,11,12,13,92] [16,59,91,110,121])
 (.cond (.t 92) (.gV [Qm 99 10,Qm 100 0,Qm 101 12,Qa 102 7 100 101,QL 103 7 102,Qm 104 1,Qm 105 13,Qa 106 7 104 105,QL 107 7 106,Q 108 (.call 405 [.t 103,.t 107] [] []),
   Q 109 (.bF 7 1 [.int .i64 0,.str ⟨#[]⟩,.int .i64 0,.int .i64 0,.int .i64 0,.aL 4,.aL 1] [(0,.t 108)]),Q 110 (.app 7 96 (.t 99) (.t 109)),Qm 10 110] [[],[],[],[1,2],[1,2,3],[],[],[5,6],[5,6,7],[1,2,3,4,5,6,7,8],[1,2,3,4,5,6,7,8,9],lr 11,lr 12] [0,1,2,7,10,11] [16,59,91,110,121]) (.seq (.ai [Qm 112 12,Q 113 (.bin .geq (.t 112) (kI 0)),Qm 111 113] [0,1,2,7,10,11,12,13,111] [16,59,91,110,121])
 (.cond (.t 111) (.ai [Qm 114 10,Qm 115 0,Qm 116 12,Qa 117 7 115 116,QL 118 7 117,Q 119 (.call 180 [.t 118] [] []),
   Q 120 (.bF 7 1 [.int .i64 0,.str ⟨#[]⟩,.int .i64 0,.int .i64 0,.int .i64 0,.aL 4,.aL 1] [(0,.t 119)]),Q 121 (.app 7 96 (.t 114) (.t 120)),Qm 10 121] [0,1,2,7,10,11] [16,59,91,110,121]) (.ai [Qm 84 10,Qm 85 1,Qm 86 13,Qa 87 7 85 86,QL 88 7 87,Q 89 (.call 180 [.t 88] [] []),
   Q 90 (.bF 7 1 [.int .i64 0,.str ⟨#[]⟩,.int .i64 0,.int .i64 0,.int .i64 0,.aL 4,.aL 1] [(0,.t 89)]),Q 91 (.app 7 96 (.t 84) (.t 90)),Qm 10 91] [0,1,2,7,10,11] [16,59,91,110,121]))))))))))
 (.ai [Qm 64 11,Q 65 (.bin .add (.t 64) (kI 1)),Qm 11 65] [0,1,2,7,10,11] [16,59,91,110,121]))
def aW.l4:C:= .seq (.seq (.ai [Qm 128 15,Qm 129 14,Q 130 (.bin .lss (.t 128) (.t 129))] [10,14,15,130] [59,91,110,121])
 (.cond (.t 130) (.skip) (.exit 9)))
 (.seq (.block 10 (.seq (.gV [Qm 133 10,Qm 134 15,Qa 135 7 133 134,Qf 136 1 135,Ql 137 136,Qm 138 10,Qm 139 14,Qa 140 7 138 139,Qf 141 1 140,Ql 142 141,Q 143 (.bin .eql (.t 137) (.t 142))] [[],[],[0,1],[0,1,2],lr 4,[],[],[5,6],[5,6,7],[5,6,7,8],lr 10] [10,14,15,143] [59,91,110,121])
 (.cond (.t 143) (.seq (.gV [Qm 144 10,Qm 145 14,Qm 146 10,Qm 147 14,Qa 148 7 146 147,Qf 149 1 148,Ql 150 149,Qm 151 10,Qm 152 14,Qa 153 7 151 152,Qf 154 0 153,Ql 155 154,
   Q 156 (.call 475 [.t 150,.t 155] [] []),Qa 157 7 144 145,Qf 158 1 157,Qs 1 158 156] [[],[],[],[],[2,3],[2,3,4],[2,3,4,5],[],[],[7,8],[7,8,9],[7,8,9,10],[2,3,4,5,6,7,8,9,10,11],lr 13,lr 14,lr 15] [10,14] [59,91,110,121])
 (.exit 9)) (.skip))))
 (.ai [Qm 131 15,Q 132 (.bin .add (.t 131) (kI 1)),Qm 15 132] [10,14,15] [59,91,110,121]))
def aW.l3:C:= .seq (.seq (.ai [Qm 122 14,Qm 123 10,Q 124 (.len (.t 123)),Q 125 (.bin .lss (.t 122) (.t 124))] [10,14,125] [59,91,110,121])
 (.cond (.t 125) (.skip) (.exit 7)))
 (.seq (.block 8 (.seq (.ai [Qi 15 0] [10,14,15] [59,91,110,121])
 (.block 9 (.loop aW.l4))))
 (.ai [Qm 126 14,Q 127 (.bin .add (.t 126) (kI 1)),Qm 14 127] [10,14] [59,91,110,121]))
def aW.b:C:= .seq (.ai [Q 6 (.nil 7)] [0,1,2] [])
 (.seq (.ai [Q 16 (.bF 1 0 [.int .i64 0] []),Qm 7 16] [0,1,2,7] [16])
 (.seq (.seq (.ai [Qi 8 0] [0,1,2,7,8] [16])
 (.block 0 (.loop aW.l0)))
 (.seq (.seq (.ai [Qi 9 0] [0,1,2,7,9] [16])
 (.block 2 (.loop aW.l1)))
 (.seq (.ai [Q 59 (.bF 7 0 [.int .i64 0,.str ⟨#[]⟩,.int .i64 0,.int .i64 0,.int .i64 0,.aL 4,.aL 1] []),Qm 10 59] [0,1,2,7,10] [16,59,91,110,121])
 (.seq (.seq (.ai [Qi 11 0] [0,1,2,7,10,11] [16,59,91,110,121])
 (.block 4 (.loop aW.l2)))
 (.seq (.seq (.ai [Qi 14 0] [10,14] [59,91,110,121])
 (.block 7 (.loop aW.l3)))
 (.seq (.ai [Qm 159 10,Qm 6 159] [6] [6,59,91,110,121])
 (.ret))))))))
def aW.m:Fn:={np:=3,body:=aW.b,res:=[.tmp 6]}
def aW.k(M:Nat→Option Body):Prop:=M 466=some (.code aW.m)∧bf.k M∧bU.k M∧bX.k M∧eE.k M∧fU.k M∧cr.k M
def bH.l1:C:= .seq (.seq (.ai [Qm 46 9,Qf 47 2 5,Ql 48 47,Qm 49 7,Qa 50 7 48 49,Qf 51 5 50,Ql 52 51,Q 53 (.len (.t 52)),Q 54 (.bin .lss (.t 46) (.t 53))] [4,5,6,7,8,9,54] [4,5,37,45,74,79,11900,13500])
 (.cond (.t 54) (.skip) (.exit 2)))
 (.seq (.block 3 (.seq (.ai [Qf 57 2 5,Ql 58 57,Qm 59 7,Qa 60 7 58 59,Qf 61 5 60,Ql 62 61,Qm 63 9,Qa 64 4 62 63,QL 65 4 64,Q 10 (.alloc [.int .i64 0,.int .i64 0,.aL 3,.str ⟨#[]⟩]),Qs 4 10 65] [4,5,6,7,8,9,10] [4,5,10,37,45,74,79,11900,13500])
 (.seq (.ai [Qm 66 6,Qf 67 0 10,Ql 68 67,Q 69 (.call 132 [.t 66,.t 68] [] []),Q 70 (.not (.t 69))] [4,5,6,7,8,9,10,70] [4,5,10,37,45,74,79,11900,13500])
 (.cond (.t 70) (.seq (.ai [Qm 71 8,QL 72 4 10,Q 73 (.bF 4 1 [.int .i64 0,.int .i64 0,.aL 3,.str ⟨#[]⟩] [(0,.t 72)]),Q 74 (.app 4 56 (.t 71) (.t 73)),Qm 8 74] [4,5,6,7,8,9,10] [4,5,10,37,45,74,79,11900,13500])
 (.ai [Qm 75 6,Qf 76 0 10,Ql 77 76,Q 78 (.bF 1 1 [.int .i64 0] [(0,.t 77)]),Q 79 (.app 1 8 (.t 75) (.t 78)),Qm 6 79] [4,5,6,7,8,9] [4,5,37,45,74,79,11900,13500])) (.skip)))))
 (.ai [Qm 55 9,Q 56 (.bin .add (.t 55) (kI 1)),Qm 9 56] [4,5,6,7,8,9] [4,5,37,45,74,79,11900,13500]))
def bH.l0:C:= .seq (.seq (.ai [Qm 38 7,Qf 39 2 5,Ql 40 39,Q 41 (.len (.t 40)),Q 42 (.bin .lss (.t 38) (.t 41))] [4,5,6,7,42] [4,5,37,79,11900,13500])
 (.cond (.t 42) (.skip) (.exit 0)))
 (.seq (.block 1 (.seq (.ai [Q 45 (.bF 4 0 [.int .i64 0,.int .i64 0,.aL 3,.str ⟨#[]⟩] []),Qm 8 45] [4,5,6,7,8] [4,5,37,45,74,79,11900,13500])
 (.seq (.seq (.ai [Qi 9 0] [4,5,6,7,8,9] [4,5,37,45,74,79,11900,13500])
 (.block 2 (.loop bH.l1)))
 (.shut [45,74] (.ai [Qf 80 2 5,Ql 81 80,Qm 82 7,Qm 83 8,Qa 84 7 81 82,Qf 85 5 84,Qs 1 85 83] [4,5,6,7] [4,5,37,79,11900,13500])))))
 (.ai [Qm 43 7,Q 44 (.bin .add (.t 43) (kI 1)),Qm 7 44] [4,5,6,7] [4,5,37,79,11900,13500]))
def bH.b:C:= .seq (.ai [Qv 2 0,Qv 3 1,Q 4 (.alloc [.int .i64 0,.int .i64 0,.aL 7,.aL 1])] [2,3,4] [2,3,4,11900,13500])
 (.seq (.gV [Qf 11 0 2,Ql 12 11,Qf 13 1 2,Ql 14 13,Qf 15 3 2,Ql 16 15,Qf 17 3 3,Ql 18 17,Q 19 (.call 43 [.t 16,.t 18] [] [(0,11900)]),
   Q 20 (.build [.int .i64 0,.int .i64 0,.aL 7,.aL 1] [(0,1,.t 12),(1,1,.t 14),(3,1,.t 19)]),Q 5 (.alloc [.int .i64 0,.int .i64 0,.aL 7,.aL 1]),Qs 4 5 20] [[],[0],[],[2],[],[4],[],[6],[4,5,6,7],lr 9,[],lr 11] [2,3,4,5] [2,3,4,5,11900,13500])
 (.seq (.seq (.ai [Qf 21 1 3,Ql 22 21,Qf 23 1 2,Ql 24 23,Q 25 (.bin .gtr (.t 22) (.t 24))] [2,3,4,5,25] [2,3,4,5,11900,13500])
 (.cond (.t 25) (.ai [Qf 26 1 3,Ql 27 26,Qf 28 1 5,Qs 1 28 27] [2,3,4,5] [2,3,4,5,11900,13500]) (.skip)))
 (.seq (.shut [11900] (.ai [Qf 29 2 2,Ql 30 29,Qf 31 2 3,Ql 32 31,Qf 33 3 5,Ql 34 33,Q 35 (.call 466 [.t 30,.t 32,.t 34] [] [(0,13500)]),Qf 36 2 5,Qs 1 36 35] [4,5] [4,5,11900,13500]))
 (.seq (.ai [Q 37 (.bF 1 0 [.int .i64 0] []),Qm 6 37] [4,5,6] [4,5,37,79,11900,13500])
 (.seq (.seq (.ai [Qi 7 0] [4,5,6,7] [4,5,37,79,11900,13500])
 (.block 0 (.loop bH.l0)))
 (.seq (.ai [QL 86 4 5,Qs 4 4 86] [4] [4,11900,13500])
 (.ret)))))))
def bH.m:Fn:={np:=2,body:=bH.b,res:=[.cell 4 true 4]}
def bH.k(M:Nat→Option Body):Prop:=M 446=some (.code bH.m)∧aT.k M∧bf.k M∧aW.k M
def fb.b:C:= .seq (.ai [Qv 2 0,Qv 3 1,Qb 4 false] [2,3] [2,3])
 (.seq (.ai [QL 5 4 2,Q 6 (.call 149 [.t 5] [] []),Qm 7 6,Qg 8 (.load true 4 (.t 3)) 7 true,Qg 9 (.call 149 [.t 8] [] []) 7 true,Q 10 (.pick (.t 7) (.t 9) (kB false)),Qm 11 10,
   Qg 12 (.load true 4 (.t 2)) 11 true,Qg 13 (.load true 4 (.t 3)) 11 true,Qg 14 (.call 446 [.t 12,.t 13] [] []) 11 true,Qg 15 (.call 149 [.t 14] [] []) 11 true,
   Q 16 (.pick (.t 11) (.t 15) (kB false)),Qm 4 16] [4] [])
 (.ret))
def fb.m:Fn:={np:=2,body:=fb.b,res:=[.tmp 4]}
def fb.k(M:Nat→Option Body):Prop:=M 432=some (.code fb.m)∧aJ.k M∧bH.k M
def iR.b:C:= .seq (.ai [Qv 2 0,Qb 3 false] [1,2] [2])
 (.seq (.ai [Qf 4 0 2,Ql 5 4,Ql 6 1,Q 7 (.bin .eql (.t 5) (.t 6)),Qm 3 7] [3] [])
 (.ret))
def iR.m:Fn:={np:=2,body:=iR.b,res:=[.tmp 3]}
def iR.k(M:Nat→Option Body):Prop:=M 199=some (.code iR.m)
def gA.b:C:= .seq (.ai [Qv 2 0,Qv 3 1,Qi 4 0] [2,3] [2,3])
 (.seq (.ai [Qf 5 2 2,Ql 6 5,Q 7 (.tL 199 [.t 3]),Q 8 (.call 200 [.t 6,.t 7] [] []),Qm 4 8] [4] [])
 (.ret))
def gA.m:Fn:={np:=2,body:=gA.b,res:=[.tmp 4]}
def gA.k(M:Nat→Option Body):Prop:=M 95=some (.code gA.m)∧iR.k M∧ay.k M
end Mx
namespace Mx
open Go
variable {P:Program} {F:Nat→FuncId}
def B9(as:List V)(lent:List (Nat×Ob)):Option (V×List (Nat×Ob)):=match as,lent with
 |[.c (.row 0 0 0 len),.c (.int .i64 i),.c (.row 2 2 0 1)],[(0,ob),(2,ob2)]=>
  if(ob.sz=7∧ob.bx=false∧len≤ob.rows.length∧0≤i∧i≤(len:Int)∧len≤1048576)∧ob2.sz=7∧ob2.bx=false∧ob2.rows.length=1 then
   some (.c (.sl true 7 (ob.rows.take i.toNat++ob2.rows++(ob.rows.take len).drop i.toNat)),[(2,ob2)]) else none
 |_,_=>none
theorem lR{b:Nat}{e:TypeId}{fr:Nat×Nat}:∀(vs:List Value) (o:Nat) (cs:Array Value) (w:World),w.heap[b]? =some (.cells cs e fr)→o+vs.length≤cs.size→
  ∃cs',(w.setCells b o vs).heap[b]? =some (.cells cs' e fr)∧cs'.size=cs.size∧(∀q,cs'[q]? =if o≤q∧q<o+vs.length then vs[q-o]? else cs[q]?)∧
   (w.setCells b o vs).os=w.os∧(w.setCells b o vs).tape=w.tape∧(w.setCells b o vs).output=w.output∧(w.setCells b o vs).heap.size=w.heap.size∧∀k,k≠b→(w.setCells b o vs).heap[k]? =w.heap[k]?
 |[],o,cs,w,hb,hl=>⟨cs,hb,rfl,fun q=>by rw[if_neg (by simp)],rfl,rfl,rfl,rfl,fun _ _=>rfl⟩
 |v::vs,o,cs,w,hb,hl=>by
  simp only[bV] at hl;have hb':(w.setCell ⟨b,o,none⟩ v).heap[b]? =some (.cells (cs.setIfInBounds o v) e fr):=by
   simp only[World.setCell,Array.getElem?_modify,hb];simp
  obtain⟨cs',g1,g2,g3,g4,g5,g6,g7,g8⟩:=lR vs (o+1) (cs.setIfInBounds o v) _ hb' (by simpa using(by omega));refine⟨cs',g1,by rw[g2];simp,fun q=> ?_,g4,g5,g6,by rw[World.setCells,g7];simp[World.setCell],fun k hk=> ?_⟩
  ·rw[g3 q,Array.getElem?_setIfInBounds];by_cases r:o+1≤q∧q<o+1+vs.length
   ·rw[if_pos r,if_pos ⟨by omega,by simp only[bV];omega⟩];obtain⟨p,rfl⟩:∃p,q=o+(p+1):=⟨q-o-1,by omega⟩
    rw[show o+(p+1)-o=p+1 from by omega,show o+(p+1)-(o+1)=p from by omega];simp
   ·rw[if_neg r];by_cases e:o=q
    ·subst e;rw[if_pos rfl,if_pos (by omega),if_pos ⟨Nat.le_refl _,by simp⟩];simp
    ·rw[if_neg e,if_neg (by simp only[bV];omega)]
  ·rw[World.setCells,g8 k hk];simp only[World.setCell,Array.getElem?_modify];rw[if_neg (fun e=>hk e.symm)]
structure tt (w w':World) (b:Option Nat) (b' cap':Nat) (R:List Value):Prop where
 os:w'.os=w.os
 tape:w'.tape=w.tape
 output:w'.output=w.output
 size:w.heap.size≤w'.heap.size
 lt:b'<w'.heap.size
 loc:b=some b'∨w.heap.size≤b'
 frame:∀k,k<w.heap.size→b≠some k→w'.heap[k]? =w.heap[k]?
 mem:∃cs e fr,w'.heap[b']? =some (.cells cs e fr)∧cs.size=cap'*7∧(∀o,o≤cs.size→¬(fr.1≤o∧o<fr.2))∧∀(j:Nat) (v:Value),R[j]? =some v→cs[j]? =some v
theorem C2{X:Cx}{ob:Ob}{b cap:Nat}(h:s5 X ob b cap)(hz:ob.sz=7){arr:Array Value}{e:TypeId}{fr:Nat×Nat}(hm:X.w.heap[b]? =some (.cells arr e fr))(n:Nat)(hn:n≤ob.rows.length):
  g_ X (ob.rows.take n).flatten (arr.toList.take (n*7))∧(arr.toList.take (n*7)).length=n*7:=by
 obtain⟨h1,h2,h3,cs,e',fr',m1,m2,m3,m4⟩:=h;rw[m1] at hm;cases hm;rw[hz] at m2 h2 m4;have hw:∀(i:Nat) (r:List T),(ob.rows.take n)[i]? =some r→r.length=7:=qx h2;have hfl:=lF hw;have htl:(ob.rows.take n).length=n:=by simp;omega
 rw[htl] at hfl;have hlen:(arr.toList.take (n*7)).length=n*7:=by
  have:n*7≤cap*7:=cn 7 (by omega);simp;omega
 refine⟨⟨by rw[hfl,hlen],fun q t v ht hv=> ?_⟩,hlen⟩;have hq:q<n*7:=by rw[←hfl];exact(List.getElem?_eq_some_iff.1 ht).1
 obtain⟨i,j,r,t',rfl,k1,k2,k3⟩:=qR hw (by omega) (by rw[htl];exact hq);rw[ht] at k3;cases k3;rw[b8] at k1;split at k1
 ·obtain⟨v',q1,q2⟩:=m4 i j r _ k1 k2;rw[b8,if_pos hq,Array.getElem?_toList,q1] at hv;cases hv;exact q2
 ·cases k1
section
variable {Pr:Nat→Prop} {E0:Nat→Option Loc} {vals:Array Value} {w w':World}
theorem FP{len:Nat}{i:Int}{ob ob2:Ob}(En:Entry F Pr E0 [.c (.row 0 0 0 len),.c (.int .i64 i),.c (.row 2 2 0 1)] [(0,ob),(2,ob2)] vals w)
  (h2x:ob2.bx=false) (hb:Option Nat) (hb0:∀b,hb=some b→∃cap,E0 0=some (.kP b cap 7)) {b' cap':Nat} {R:List Value} (O:tt w w' hb b' cap' R)
  {rows:List (List T)} (hrl:rows.length≤cap') (hrw:∀(i:Nat) (r:List T),rows[i]? =some r→r.length=7) (hrc:∀(i j:Nat) (r:List T) (t:T),rows[i]? =some r→r[j]? =some t→ff t)
  (hR:g_ (cx F Pr E0 [(0,ob),(2,ob2)] w) rows.flatten R):
  ∃val E' own,Ending.returned (.slice (some (gK b')) rows.length cap')= .returned val∧CI F Pr E0 [(0,ob),(2,ob2)] w E' own (.c (.sl true 7 rows)) [(2,ob2)] val w':=by
 obtain⟨v1,_,w1,l1,hl1,hr1⟩:=En.oc 0 ob (by simp[get]);obtain⟨v2,_,w2,l2,hl2,hr2⟩:=En.oc 2 ob2 (by simp[get]);have hlb0:∀b,hb=some b→uh [(0,ob),(2,ob2)] E0 b:=fun b h=>by
  obtain⟨cap,h0⟩:=hb0 b h;exact⟨0,ob,cap,7,by simp[get],by rw[v1];exact h0⟩
 have hd:∀b cap sz,l2= .kP b cap sz→hb≠some b:=fun b cap sz h hq=>by
  obtain⟨cap0,h0⟩:=hb0 b hq;rw[h] at hl2;have:=En.pA 0 2 ob ob2 b cap0 7 cap sz (by simp[get]) (by simp[get]) (by rw[v1];exact h0) (by rw[v2];exact hl2);omega
 have K:mH (cx F Pr E0 [(0,ob),(2,ob2)] w) (rx F Pr E0 [(0,ob),(2,ob2)] E0 (fun q=>if q=0 then some (.kP b' cap' 7) else none) w'):=by
  refine⟨rfl,fun _ _ h=>h,fun ad v hu hcell=> ?_⟩;have hlt:ad.block<w.heap.size:=zT hcell;have hnl:¬uh [(0,ob),(2,ob2)] E0 ad.block:=by
   rintro ⟨p,ob',cap,sz,h1,h2⟩;refine hu (.inl ⟨p,ob',cap,sz,h1, ?_,h2⟩);simp only[get] at h1;split at h1
   ·cases h1;exact w1
   ·split at h1
    ·cases h1;exact w2
    ·cases h1
  refine⟨(o4 (O.frame _ hlt fun q=>hnl (hlb0 _ q))).trans hcell, ?_⟩;rintro (h|h|⟨q,cap,sz,h⟩)
  ·exact hnl h
  ·exact hu (.inr h)
  ·simp only at h;split at h
   ·simp only[aH,Loc.kP.injEq] at h;rcases O.loc with z|z
    ·exact hnl (by rw[←h.1];exact hlb0 _ z)
    ·omega
   ·cases h
 obtain⟨cs,e,fr,m1,m2,m3,m4⟩:=O.mem;refine⟨.slice (some (gK b')) rows.length cap',E0,fun q=>if q=0 then some (.kP b' cap' 7) else none,rfl,O.os,O.tape,O.output,O.size, ?_,fun _ _ h=>h, ?_, ?_, ?_, ?_⟩
 ·intro k hk hn;exact O.frame k hk fun q=>hn (hlb0 k q)
 ·intro q b cap sz h;split at h
  ·simp only[aH,Loc.kP.injEq] at h;obtain⟨rfl,rfl,rfl⟩:=h;refine⟨?_,O.lt⟩;rcases O.loc with z|z
   ·obtain⟨cap0,h0⟩:=hb0 _ z;exact .inr ⟨0,ob,cap0,7,by simp[get],by simp[get],by rw[v1];exact h0⟩
   ·exact .inl z
  ·cases h
 ·intro q q' b cap sz cap2 sz2 h h';split at h
  ·split at h'
   ·omega
   ·cases h'
  ·cases h
 ·simp only[yl,vZ];refine tq.own 7 rows (.kP b' cap' 7) (by simp) ⟨rfl, ?_⟩;exact sL (ob:={ct:=0,sz:=7,w:=true,bx:=false,rows:=rows}) hrl hrw (hR.mono K) m1 m2 m3 m4 fun _=>hrc
 ·intro p o1 o2 l hg ha hE;simp only[get] at hg ha;split at ha
  ·rename_i hp2;subst hp2;cases ha;have hg':ob2=o1:=by simpa using hg
   subst hg';rw[hE] at hl2;cases hl2;have hclo:∀(i j:Nat) (r:List T) (t:T),ob2.rows[i]? =some r→r[j]? =some t→ff t:=by
    intro i j r t hi hj;cases l2 with
    |nil=>have:=hr2.1;rw[this] at hi;simp at hi
    |kP b cap sz=>exact hr2.2.cl h2x i j r t hi hj
   refine⟨?_,hclo⟩;cases l2 with
   |nil=>exact hr2
   |kP b cap sz=>
    refine⟨hr2.1,hr2.2.mono K ?_⟩;exact O.frame b (En.place 2 ob2 b cap sz (by simp[get]) (by rw[v2];exact hE)) (hd b cap sz rfl)
  ·cases ha
theorem DU{w1:World}{b o cap:Nat}{arr:Array Value}{e:TypeId}{fr:Nat×Nat}{vs R:List Value}(hm:w.heap[b]? =some (.cells arr e fr))(hs:arr.size=cap*7)(hf:∀o,o≤arr.size→¬(fr.1≤o∧o<fr.2))
  (hl:o+vs.length≤arr.size) (hw:w1=w.setCells b o vs) (hR:∀(j:Nat) (v:Value),R[j]? =some v→(if o≤j∧j<o+vs.length then vs[j-o]? else arr[j]?)=some v):tt w w1 (some b) b cap R:=by
 obtain⟨cs',g1,g2,g3,g4,g5,g6,g7,g8⟩:=lR vs o arr w hm hl;subst hw;have hb:b<w.heap.size:=by
  rcases Nat.lt_or_ge b w.heap.size with q|q
  ·exact q
  ·rw[Array.getElem?_eq_none q] at hm;cases hm
 exact⟨g4,g5,g6,by rw[g7];exact Nat.le_refl _,by rw[g7];exact hb,.inl rfl,fun k _ hn=>g8 k fun q=>hn (by rw[q]),cs',e,fr,g1,by rw[g2];exact hs,fun o ho=>hf o (by omega),fun j v hj=>by rw[g3];exact hR j v hj⟩
theorem wP{cs vs:List Value}{k:Nat}(hk:k≤cs.length)(hv:vs.length=7){j:Nat}{v:Value}(h:(cs.take k++vs++cs.drop k)[j]? =some v):
  (j<k∧cs[j]? =some v)∨(k≤j∧j<k+7∧vs[j-k]? =some v)∨(k+7≤j∧j<cs.length+7∧(cs.drop k)[j-(k+7)]? =some v):=by
 have h1:(cs.take k).length=k:=by simp;omega
 have hj:j<(cs.take k++vs++cs.drop k).length:=(List.getElem?_eq_some_iff.1 h).1;simp only[aD,h1,hv,List.length_drop] at hj;rw[b4,dB] at h;split at h
 ·rename_i c;rw[h1] at c;rw[b8,if_pos c] at h;exact .inl ⟨c,h⟩
 ·rename_i c;rw[h1] at c h;rw[dB] at h;split at h
  ·rename_i c2;exact .inr (.inl ⟨by omega,by omega,h⟩)
  ·rename_i c2;refine .inr (.inr ⟨by omega,by omega, ?_⟩);rw[hv] at h;rw[show j-(k+7)=j-k-7 by omega];exact h
theorem Iu{f:Nat}{tS tE:TypeId}{bytes:Nat}{zero:List T}(hf:yf P F f=true)(he:iH P tS=some tE)(hsz:ld P tE=some 7)(hby:pS P tE=some bytes)(hbytes:bytes≤4096)(hz:wm P zero tE=true)
  (hEnd:∀(base:Option Addr) (n c vb vc:Nat) (w w1:World) (val:Value),(base=none→n=0)→(∀a,base=some a→∃b,a=⟨b,0,none⟩)→n≤c→
   (∀ty,(Builtin.append_ #[tS,tS] ty #[.slice base n c,.slice (some ⟨vb,0,none⟩) 1 vc]).run P w= .ok val w1)→Calls P (F f) #[.slice base n c,.int .i64 n,.slice (some ⟨vb,0,none⟩) 1 vc] w fun e w'=>e= .returned val∧w'=w1)
  (hShift:∀(b n c i vb vc:Nat) (cs vs:List Value) (w:World),i<n→n+1≤c→n≤1048576→vb≠b→cs.length=n*7→vs.length=7→(∀j v,cs[j]? =some v→w.cell? ⟨b,j,none⟩=some v)→
   (∀j,j<(n+1)*7→(w.cell? ⟨b,j,none⟩).isSome=true)→(∀j,j<(n+1)*7→w.frozen? ⟨b,j,none⟩=false)→(∀j v,vs[j]? =some v→w.cell? ⟨vb,j,none⟩=some v)→(∀v∈cs,v.oneCell'=true)→(∀v∈vs,v.oneCell'=true)→
   ∀(tA tB:TypeId) (kA kB:Nat),w.shape? vb=some (tA,kA)→w.shape? b=some (tB,kB)→kB≠0→w.frozen? ⟨vb,0,none⟩=false→w.frozen? ⟨vb,kA,none⟩=false→
   Calls P (F f) #[.slice (some ⟨b,0,none⟩) n c,.int .i64 i,.slice (some ⟨vb,0,none⟩) 1 vc] w fun e w'=>
    e= .returned (.slice (some ⟨b,0,none⟩) (n+1) c)∧w'=(w.drew.setCells b ((i+1)*7) (cs.drop (i*7))).setCells b (i*7) vs)
  (hGrow:∀(b n c i vb vc:Nat) (cs vs:List Value) (w:World),i<n→n≤c→c<n+1→n≤1048576→cs.length=n*7→vs.length=7→(∀j v,cs[j]? =some v→w.cell? ⟨b,j,none⟩=some v)→(∀j v,vs[j]? =some v→w.cell? ⟨vb,j,none⟩=some v)→
   (∀v∈cs,v.oneCell'=true)→(∀v∈vs,v.oneCell'=true)→
   Calls P (F f) #[.slice (some ⟨b,0,none⟩) n c,.int .i64 i,.slice (some ⟨vb,0,none⟩) 1 vc] w fun e w'=>
    ∃(G:Nat) (row:Array Value),n+1≤G∧row.size=G*7∧e= .returned (.slice (some ⟨w.heap.size,0,none⟩) (n+1) G)∧(∀j,j<i*7→row[j]? =cs[j]?)∧
    w'=(((w.alloc (.cells row tE)).drew.setCells w.heap.size (i*7) vs).drew).setCells w.heap.size ((i+1)*7) (cs.drop (i*7))):vS P F f B9:=by
 intro as lent res after hg;refine⟨hf,fun Pr E0 vals w En=> ?_⟩;unfold B9 at hg;split at hg;rotate_left
 ·cases hg
 rename_i len i ob ob2;split at hg;rotate_left
 ·cases hg
 rename_i hc;cases hg;obtain⟨⟨c1,c2,c3,c4,c5,c6⟩,c7,c8,c9⟩:=hc;obtain⟨m,rfl⟩:∃m:Nat,i=(m:Int):=⟨i.toNat,by omega⟩
 have hm:m≤len:=by omega
 simp only[fB];have hn:vals.size=3:=En.n.symm;obtain⟨x0,x1,x2,rfl⟩:∃x0 x1 x2,vals= #[x0,x1,x2]:=by
  obtain⟨l⟩:=vals
  match l,hn with
  |[a,b,c],_=>exact⟨a,b,c,rfl⟩
 have a0:=En.args 0 _ x0 rfl rfl;have a1:=En.args 1 _ x1 rfl rfl;have a2:=En.args 2 _ x2 rfl rfl;obtain⟨v1,_,w1,l1,hl1,hr1⟩:=En.oc 0 ob (by simp[get]);obtain⟨v2,_,w2,l2,hl2,hr2⟩:=En.oc 2 ob2 (by simp[get]);have hx1:x1= .int .i64 m:=by cases a1 with|c _ _ h=>cases h;rfl
 subst hx1;cases a2 with
 |c _ _ a2=>
 cases a2 with
 |row _ _ _ _ vcap vsz vb hvE _ _=>
 have hvE':E0 2=some (.kP vb vcap vsz):=hvE;rw[hvE'] at hl2;cases hl2;obtain⟨e2,hob2⟩:=hr2;rw[c7] at e2;subst e2;obtain⟨xV,et2,fr2,n1,n2,n3,n4⟩:=hob2.mem;rw[c7] at n2 n4;have hvl1:1≤vcap:=by have:=hob2.len;omega
 obtain⟨hV,hVl⟩:=C2 hob2 c7 n1 1 (by omega);rw[ab (by omega:ob2.rows.length≤1)] at hV;simp only[Nat.one_mul] at hV hVl;obtain⟨vs,hvs⟩:∃vs,vs=xV.toList.take 7:=⟨_,rfl⟩
 rw[←hvs] at hV hVl;have n1':w.heap[vb]? =some (.cells xV et2 fr2):=n1;have hvcell:∀(j:Nat) (v:Value),vs[j]? =some v→w.cell? ⟨vb,j,none⟩=some v:=by
  intro j v hj;rw[hvs,b8] at hj;split at hj
  ·rw[Array.getElem?_toList] at hj;simp only[World.cell?,n1',Option.isSome_none,aB,if_false];exact hj
  ·cases hj
 have hfzv:∀o,o≤xV.size→w.frozen? ⟨vb,o,none⟩=false:=by
  intro o ho;have:=n3 o ho;simp only[World.frozen?,n1',Bool.and_eq_false_iff,decide_eq_false_iff_not];omega
 have hx2:(Value.slice (some ((gK vb).add (0*7))) 1 (vcap-0))= .slice (some ⟨vb,0,none⟩) 1 vcap:=by
  rw[lz];simp
 rw[hx2] at En ⊢;have hrows:∀(k:Nat) (r:List T),(ob.rows.take m++ob2.rows++(ob.rows.take len).drop m)[k]? =some r→(∃k':Nat,ob.rows[k']? =some r)∨∃k':Nat,ob2.rows[k']? =some r:=by
  intro k r h;rcases List.mem_append.1 (jI h) with q|q
  ·rcases List.mem_append.1 q with q|q
   ·exact .inl (List.getElem?_of_mem (List.mem_of_mem_take q))
   ·exact .inr (List.getElem?_of_mem q)
  ·exact .inl (List.getElem?_of_mem (List.mem_of_mem_take (List.mem_of_mem_drop q)))
 have hlenR:(ob.rows.take m++ob2.rows++(ob.rows.take len).drop m).length=len+1:=by simp[c9];omega
 have hw2:∀(k:Nat) (r:List T),ob2.rows[k]? =some r→r.length=7:=by have:=hob2.width;rwa [c7] at this
 have fin:∀(hb:Option Nat) (hb0:∀b,hb=some b→∃cap,E0 0=some (.kP b cap 7)) (b' cap':Nat) (R:List Value) (w':World),tt w w' hb b' cap' R→len+1≤cap'→
   (∀(k j:Nat) (r:List T) (t:T),ob.rows[k]? =some r→r[j]? =some t→ff t)→(∀(k:Nat) (r:List T),ob.rows[k]? =some r→r.length=7)→
   g_ (cx F Pr E0 [(0,ob),(2,ob2)] w) (ob.rows.take m++ob2.rows++(ob.rows.take len).drop m).flatten R→
   ∃val E' own,Ending.returned (.slice (some (gK b')) (len+1) cap')= .returned val∧CI F Pr E0 [(0,ob),(2,ob2)] w E' own (.c (.sl true 7 (ob.rows.take m++ob2.rows++(ob.rows.take len).drop m))) [(2,ob2)] val w':=by
  intro hb hb0 b' cap' R w' O hcap hcl hwd hR;have:=FP En c8 hb hb0 O (rows:=ob.rows.take m++ob2.rows++(ob.rows.take len).drop m) (by rw[hlenR];exact hcap) (fun k r h=>by
   rcases hrows k r h with⟨k',q⟩|⟨k',q⟩
   ·exact hwd k' r q
   ·exact hw2 k' r q) (fun k j r t h hj=>by
   rcases hrows k r h with⟨k',q⟩|⟨k',q⟩
   ·exact hcl k' j r t q hj
   ·exact hob2.cl c8 k' j r t q hj) hR
  rw[hlenR] at this;exact this
 obtain⟨zv,hzv,hzr,hzs,_⟩:=oA (P:=P) (X:=cx F Pr E0 [(0,ob),(2,ob2)] w) hz;have hzc:zv.cells.size=7:=by
  rw[hsz] at hzs;have h1:=hzr.1;simp at h1;have:=Option.some.inj hzs;omega
 have hlv:(Builtin.lenOf (.slice (some ⟨vb,0,none⟩) 1 vcap)).run P w= .ok 1 w:=by simp[Builtin.lenOf]
 have hnew:∀q,(Builtin.firstCells 7 1 (.slice (some ⟨vb,0,none⟩) 1 vcap)).run P {w with drawn:=q}= .ok vs.toArray {w with drawn:=q}:=fun q=>
  run_firstCells_some (P:=P) (w:={w with drawn:=q}) 7 1 ⟨vb,0,none⟩ 1 vcap vs (by omega) (fun j v hj=>by rw[show (⟨vb,0,none⟩:Addr)=gK vb from rfl,lz];exact hvcell j v hj)
 cases a0 with
 |c _ _ a0=>
 cases a0 with
 |oi _ _ hE=>
  have hE':E0 0=some .nil:=hE;rw[hE'] at hl1;cases hl1;have hrn:ob.rows=[]:=hr1.1;have hm0:m=0:=by omega
  subst hm0;have hgo:=(uX (P:=P) (w:=w) (tyr:=tS) (base:=none) (sLen:=0) (sCap:=0) he hsz (jX he) (fun k=>by simp) hby hzv hzc hbytes (k:=1) (by omega) hlv hnew (mX:= #[]) (by intro q;simp[Builtin.firstCells]) (by simp) (by simp[hVl])).2 (by omega);obtain⟨cap,rest,w1,hcap,hrest,f1,f2,f3,f4,hr⟩:=hgo;refine(hEnd none 0 0 vb vcap w w1 _ (fun _=>rfl) (fun a h=>by cases h) (Nat.le_refl _) (fun ty=>hr)).mono ?_;rintro e w' ⟨rfl,rfl⟩;have O:tt w w' none w.heap.size cap vs:=by
   refine⟨f1,f2,f3,by rw[f4];simp,by rw[f4];simp,.inr (Nat.le_refl _),fun k hk _=>by rw[f4,Array.getElem?_push,if_neg (by omega)],#[]++vs.toArray++rest,tE,(0,0),by rw[f4];exact Array.getElem?_push_size, ?_,by simp,fun j v hj=> ?_⟩
   ·simp only[Array.empty_append,Array.size_append,List.size_toArray,hVl,hrest];omega
   ·rw[Array.empty_append,Array.getElem?_append_left (by simpa using(List.getElem?_eq_some_iff.1 hj).1)];simpa using hj
  refine fin none (fun b h=>by cases h) w.heap.size cap vs w' O (by omega) (fun k j r t h=>by rw[hrn] at h;simp at h) (fun k r h=>by rw[hrn] at h;simp at h) ?_;simpa [hrn] using hV
 |row _ _ _ _ cap sz b hE hfit _=>
  have hE':E0 0=some (.kP b cap sz):=hE;rw[hE'] at hl1;cases hl1;obtain⟨e1,hob⟩:=hr1;rw[c1] at e1;subst e1;obtain⟨arr,et,fr,m1,m2,m3,m4⟩:=hob.mem;rw[c1] at m2 m4;have m1':w.heap[b]? =some (.cells arr et fr):=m1;have hcl:∀(k j:Nat) (r:List T) (t:T),ob.rows[k]? =some r→r[j]? =some t→ff t:=hob.cl c2;have hwd:∀(k:Nat) (r:List T),ob.rows[k]? =some r→r.length=7:=by have:=hob.width;rwa [c1] at this
  have hlc:len≤cap:=by have:=hob.len;omega
  obtain⟨hC,hCl⟩:=C2 hob c1 m1 len c3;obtain⟨cs,hcs⟩:∃cs,cs=arr.toList.take (len*7):=⟨_,rfl⟩
  rw[←hcs] at hC hCl;have hccell:∀(j:Nat) (v:Value),cs[j]? =some v→arr[j]? =some v:=by
   intro j v hj;rw[hcs,b8] at hj;split at hj
   ·rwa [Array.getElem?_toList] at hj
   ·cases hj
  have hbcell:∀(j:Nat) (v:Value),cs[j]? =some v→w.cell? ⟨b,j,none⟩=some v:=by
   intro j v hj;simp only[World.cell?,m1',Option.isSome_none,aB,if_false];exact hccell j v hj
  have hfz:∀o,o≤arr.size→w.frozen? ⟨b,o,none⟩=false:=by
   intro o ho;have:=m3 o ho;simp only[World.frozen?,m1',Bool.and_eq_false_iff,decide_eq_false_iff_not];omega
  have h7:m*7≤cs.length:=by rw[hCl];omega
  have hx0:(Value.slice (some ((gK b).add (0*7))) len (cap-0))= .slice (some ⟨b,0,none⟩) len cap:=by
   rw[lz];simp
  rw[hx0];have hR:g_ (cx F Pr E0 [(0,ob),(2,ob2)] w) (ob.rows.take m++ob2.rows++(ob.rows.take len).drop m).flatten (cs.take (m*7)++vs++cs.drop (m*7)):=by
   have hsp:(ob.rows.take len).flatten=(ob.rows.take m).flatten++((ob.rows.take len).drop m).flatten:=by
    rw[←List.flatten_append];congr 1;have:=(da m (ob.rows.take len)).symm
    rwa [List.take_take,Nat.min_eq_left hm] at this
   have hfl:(ob.rows.take m).flatten.length=m*7:=by
    have:=lF (sz:=7) (rows:=ob.rows.take m) (qx hwd);rw[this];simp;omega
   have hA:=hC.take (m*7);have hD:=hC.drop (m*7);rw[hsp,List.take_left' hfl] at hA;rw[hsp,List.drop_left' hfl] at hD;rw[List.flatten_append,List.flatten_append];exact(hA.append hV).append hD
  have hbs:b<w.heap.size:=by
   rcases Nat.lt_or_ge b w.heap.size with q|q
   ·exact q
   ·rw[Array.getElem?_eq_none q] at m1';cases m1'
  have hb0:∀b_1,some b=some b_1→∃cap,E0 0=some (.kP b_1 cap 7):=fun b1 h=>by cases h;exact⟨cap,hE'⟩
  have hbA:(⟨b,0,none⟩:Addr)=gK b:=rfl;by_cases hme:m=len
  ·subst hme;have hold:∀q,(Builtin.firstCells 7 m (.slice (some (gK b)) m cap)).run P {w with drawn:=q}= .ok cs.toArray {w with drawn:=q}:=fun q=>
    run_firstCells_some (P:=P) (w:={w with drawn:=q}) 7 m (gK b) m cap cs hCl (fun j v hj=>by rw[lz];exact hbcell j v hj)
   have hgo:=uX (P:=P) (w:=w) (tyr:=tS) (base:=some (gK b)) (sLen:=m) (sCap:=cap) he hsz (jX he) (fun k=>by simp) hby hzv hzc hbytes (k:=1) (by omega) hlv hnew (mX:=cs.toArray) hold (by simp[hCl]) (by simp[hVl]);have hcsd:cs.drop (m*7)=[]:=dY (by omega);have hcst:cs.take (m*7)=cs:=ab (by omega);by_cases hroom:m+1≤cap
   ·have hst:=run_storeCells_cells (P:=P) b (m*7) vs 0 w (fun j hj=>by
      rw[World.cell?,m1'];simp only[Option.isSome_none,aB,if_false];rw[Array.getElem?_eq_getElem (by rw[m2];omega)];rfl) (fun j hj=>hfz _ (by rw[m2];omega)) hV.one
    have hrun:=hgo.1 hroom (w.setCells b (m*7+0) vs) (by simp only;rw[lz];exact hst);refine(hEnd (some ⟨b,0,none⟩) m cap vb vcap w _ _ (fun h=>by cases h) (fun a h=>⟨b,(Option.some.inj h).symm⟩) hlc (fun ty=>hrun)).mono ?_;rintro e w' ⟨rfl,rfl⟩;refine fin (some b) hb0 b cap _ _ (DU (o:=m*7) (vs:=vs) m1' m2 m3 (by rw[m2,hVl];omega) rfl fun j v hj=> ?_) hroom hcl hwd hR;rcases wP h7 hVl hj with⟨q1,q2⟩|⟨q1,q2,q3⟩|⟨q1,q2,q3⟩
    ·rw[if_neg (by omega)];exact hccell j v q2
    ·rw[if_pos ⟨by omega,by omega⟩];simpa using q3
    ·rw[hcsd] at q3;simp at q3
   ·obtain⟨cap2,rest,w1,hcap,hrest,f1,f2,f3,f4,hr⟩:=hgo.2 (by omega);refine(hEnd (some ⟨b,0,none⟩) m cap vb vcap w w1 _ (fun h=>by cases h) (fun a h=>⟨b,(Option.some.inj h).symm⟩) hlc (fun ty=>hr)).mono ?_;rintro e w' ⟨rfl,rfl⟩;have O:tt w w' none w.heap.size cap2 (cs.take (m*7)++vs++cs.drop (m*7)):=by
     refine⟨f1,f2,f3,by rw[f4];simp,by rw[f4];simp,.inr (Nat.le_refl _),fun k hk _=>by rw[f4,Array.getElem?_push,if_neg (by omega)],cs.toArray++vs.toArray++rest,tE,(0,0),by rw[f4];exact Array.getElem?_push_size, ?_,by simp,fun j v hj=> ?_⟩
     ·simp only[Array.size_append,List.size_toArray,hVl,hCl,hrest];omega
     ·rw[hcsd,hcst,cR] at hj;have hjl:j<(cs++vs).length:=(List.getElem?_eq_some_iff.1 hj).1;have e3:cs.toArray++vs.toArray=(cs++vs).toArray:=by simp
      rw[e3,Array.getElem?_append_left (by simpa using hjl)];simpa using hj
    exact fin none (fun b h=>by cases h) w.heap.size cap2 _ w' O hcap hcl hwd hR
  ·have hml:m<len:=by omega
   by_cases hroom:len+1≤cap
   ·refine(hShift b len cap m vb vcap cs vs w hml hroom c6 ?_ hCl hVl hbcell ?_ ?_ hvcell hC.one hV.one et2 et xV.size arr.size ?_ ?_ ?_ (hfzv 0 (Nat.zero_le _)) (hfzv _ (Nat.le_refl _))).mono ?_
    ·intro q;have:=En.pA 0 2 ob ob2 b cap 7 vcap 7 (by simp[get]) (by simp[get]) (by rw[v1];exact hE') (by rw[v2,hvE',q]);omega
    ·intro j hj;rw[World.cell?,m1'];simp only[Option.isSome_none,aB,if_false];have:(len+1)*7≤cap*7:=cn 7 hroom;rw[Array.getElem?_eq_getElem (by rw[m2];omega)];rfl
    ·intro j hj;have:(len+1)*7≤cap*7:=cn 7 hroom;exact hfz _ (by rw[m2];omega)
    ·simp[World.shape?,n1']
    ·simp[World.shape?,m1']
    ·rw[m2];omega
    ·rintro e w' ⟨rfl,rfl⟩;have hdl:(cs.drop (m*7)).length=len*7-m*7:=by rw[List.length_drop,hCl]
     have h8:(len+1)*7≤cap*7:=cn 7 hroom;obtain⟨arr3,g1,g2,g3,g4,g5,g6,g7,g8⟩:=lR (cs.drop (m*7)) ((m+1)*7) arr w.drew m1' (by rw[hdl,m2];omega);obtain⟨arr4,k1,k2,k3,k4,k5,k6,k7,k8⟩:=lR vs (m*7) arr3 _ g1 (by rw[hVl,g2,m2];omega);have O:tt w ((w.drew.setCells b ((m+1)*7) (cs.drop (m*7))).setCells b (m*7) vs) (some b) b cap (cs.take (m*7)++vs++cs.drop (m*7)):=by
      refine⟨k4.trans g4,k5.trans g5,k6.trans g6,by rw[k7,g7];exact Nat.le_refl _,by rw[k7,g7];exact hbs,.inl rfl,fun q _ hq=>(k8 q fun z=>hq (by rw[z])).trans (g8 q fun z=>hq (by rw[z])),arr4,et,fr,k1,by rw[k2,g2,m2],fun o ho=>m3 o (by omega),fun j v hj=> ?_⟩;rw[k3,g3];rcases wP h7 hVl hj with⟨q1,q2⟩|⟨q1,q2,q3⟩|⟨q1,q2,q3⟩
      ·rw[if_neg (by omega),if_neg (by omega)];exact hccell j v q2
      ·rw[if_pos ⟨by omega,by omega⟩];exact q3
      ·rw[if_neg (by omega),if_pos ⟨by omega,by omega⟩,show j-(m+1)*7=j-(m*7+7) by omega];exact q3
     exact fin (some b) hb0 b cap _ _ O hroom hcl hwd hR
   ·refine(hGrow b len cap m vb vcap cs vs w hml hlc (by omega) c6 hCl hVl hbcell hvcell hC.one hV.one).mono ?_;rintro e w' ⟨G,row,hG,hrs,rfl,hrt,rfl⟩;have hdl:(cs.drop (m*7)).length=len*7-m*7:=by rw[List.length_drop,hCl]
    have h8:(len+1)*7≤G*7:=cn 7 hG;have hm0:((w.alloc (.cells row tE)).drew).heap[w.heap.size]? =some (.cells row tE (0,0)):=Array.getElem?_push_size;obtain⟨arr3,g1,g2,g3,g4,g5,g6,g7,g8⟩:=lR vs (m*7) row _ hm0 (by rw[hVl,hrs];omega);obtain⟨arr4,k1,k2,k3,k4,k5,k6,k7,k8⟩:=lR (cs.drop (m*7)) ((m+1)*7) arr3 (((w.alloc (.cells row tE)).drew.setCells w.heap.size (m*7) vs).drew) g1 (by rw[hdl,g2,hrs];omega);have hsz2:((w.alloc (.cells row tE)).drew).heap.size=w.heap.size+1:=Array.size_push ..;have O:tt w ((((w.alloc (.cells row tE)).drew.setCells w.heap.size (m*7) vs).drew).setCells w.heap.size ((m+1)*7) (cs.drop (m*7))) none w.heap.size G (cs.take (m*7)++vs++cs.drop (m*7)):=by
     refine⟨k4.trans g4,k5.trans g5,k6.trans g6, ?_, ?_,.inr (Nat.le_refl _),fun q hq _=> ?_,arr4,tE,(0,0),k1,by rw[k2,g2,hrs],by simp,fun j v hj=> ?_⟩
     ·rw[k7];show w.heap.size≤(((w.alloc (.cells row tE)).drew.setCells w.heap.size (m*7) vs)).heap.size;rw[g7,hsz2];omega
     ·rw[k7];show w.heap.size<(((w.alloc (.cells row tE)).drew.setCells w.heap.size (m*7) vs)).heap.size;rw[g7,hsz2];omega
     ·refine(k8 q (by omega)).trans ((g8 q (by omega)).trans ?_);show (w.heap.push _)[q]? =_;rw[Array.getElem?_push,if_neg (by omega)]
     ·rw[k3,g3];rcases wP h7 hVl hj with⟨q1,q2⟩|⟨q1,q2,q3⟩|⟨q1,q2,q3⟩
      ·rw[if_neg (by omega),if_neg (by omega),hrt j q1];exact q2
      ·rw[if_neg (by omega),if_pos ⟨by omega,by omega⟩];exact q3
      ·rw[if_pos ⟨by omega,by omega⟩,show j-(m+1)*7=j-(m*7+7) by omega];exact q3
    exact fin none (fun b h=>by cases h) w.heap.size G _ _ O hG hcl hwd hR
end
end Mx
namespace Mx
open Go
def eG.l0:C:= .seq (.ai [Q 10 (.bin .lss (.t 9) (.t 8))] [3,7,8,9,10] [6,17])
 (.seq (.cond (.t 10) (.skip) (.exit 0))
 (.seq (.block 1 (.seq (.ai [Qa 11 7 7 9,QL 12 7 11,Q 5 (.alloc [.int .i64 0,.str ⟨#[]⟩,.int .i64 0,.int .i64 0,.int .i64 0,.aL 4,.aL 1]),Qs 7 5 12] [3,5,7,8,9] [5,6,17])
 (.ai [Qm 13 3,QL 14 7 5,Q 15 (.call 155 [.t 14] [] []),Q 16 (.bF 7 1 [.int .i64 0,.str ⟨#[]⟩,.int .i64 0,.int .i64 0,.int .i64 0,.aL 4,.aL 1] [(0,.t 15)]),
   Q 17 (.app 7 96 (.t 13) (.t 16)),Qm 3 17] [3,7,8,9] [6,17])))
 (.ai [Q 18 (.bin .add (.t 9) (kI 1)),Qm 9 18] [3,7,8,9] [6,17])))
def eG.b:C:= .seq (.ai [Q 2 (.nil 7)] [0] [])
 (.seq (.ai [Q 6 (.bF 7 0 [.int .i64 0,.str ⟨#[]⟩,.int .i64 0,.int .i64 0,.int .i64 0,.aL 4,.aL 1] []),Qm 3 6] [0,3] [6,17])
 (.seq (.seq (.ai [Qm 7 0,Q 8 (.len (.t 7)),Qi 9 0] [3,7,8,9] [6,17])
 (.block 0 (.loop eG.l0)))
 (.seq (.ai [Qm 19 3,Qm 2 19] [2] [2,6,17])
 (.ret))))
def eG.m:Fn:={np:=1,body:=eG.b,res:=[.tmp 2]}
def eG.k(M:Nat→Option Body):Prop:=M 270=some (.code eG.m)∧cm.k M
def bW.b:C:= .seq (.ai [Qv 1 0,Q 2 (.alloc [.int .i64 0,.int .i64 0,.aL 7,.aL 1])] [1,2] [1,2,10900,11200])
 (.seq (.gV [Qf 3 0 1,Ql 4 3,Qf 5 1 1,Ql 6 5,Qf 7 2 1,Ql 8 7,Q 9 (.call 270 [.t 8] [] [(0,10900)]),Qf 10 3 1,Ql 11 10,Q 12 (.call 134 [.t 11] [] [(0,11200)]),
   Q 13 (.build [.int .i64 0,.int .i64 0,.aL 7,.aL 1] [(0,1,.t 4),(1,1,.t 6),(2,1,.t 9),(3,1,.t 12)]),Qs 4 2 13] [[],[0],[],[2],[],[4],[4,5],[],[7],[4,5,6,7,8],lr 10,lr 11] [2] [2,10900,11200])
 (.ret))
def bW.m:Fn:={np:=1,body:=bW.b,res:=[.cell 2 true 4]}
def bW.k(M:Nat→Option Body):Prop:=M 220=some (.code bW.m)∧eR.k M∧eG.k M
def fy.l0:C:= .seq (.ai [Q 11 (.bin .lss (.t 10) (.t 9))] [1,2,8,9,10,11] [2])
 (.seq (.cond (.t 11) (.skip) (.exit 0))
 (.seq (.block 1 (.seq (.ai [Qa 12 7 8 10,QL 13 7 12,Q 6 (.alloc [.int .i64 0,.str ⟨#[]⟩,.int .i64 0,.int .i64 0,.int .i64 0,.aL 4,.aL 1]),Qs 7 6 13] [1,2,6,8,9,10] [2,6])
 (.seq (.ai [Qf 14 0 6,Ql 15 14,Qm 16 1,Q 17 (.bin .eql (.t 15) (.t 16)),Qm 18 17,Qg 19 (.load true 7 (.t 6)) 18 false,Qg 20 (.mv (.t 1)) 18 false,
   Qg 21 (.call 72 [.t 19,.t 20] [] []) 18 false,Qg 22 (.bin .geq (.t 21) (kI 0)) 18 false,Q 23 (.pick (.t 18) (kB true) (.t 22)),Qm 24 23,Qg 25 (.bN 6 (.t 6)) 24 false,
   Qg 26 (.load false 1 (.t 25)) 24 false,Qg 27 (.mv (.t 1)) 24 false,Qg 28 (.call 156 [.t 26,.t 27] [] []) 24 false,Q 29 (.pick (.t 24) (kB true) (.t 28))] [1,2,8,9,10,29] [2])
 (.cond (.t 29) (.seq (.ai [Qb 4 true] [4] [])
 (.ret)) (.skip)))))
 (.ai [Q 30 (.bin .add (.t 10) (kI 1)),Qm 10 30] [1,2,8,9,10] [2])))
def fy.b:C:= .seq (.ai [Qv 2 0,Qb 4 false] [1,2] [2])
 (.seq (.seq (.ai [Qf 7 2 2,Ql 8 7,Q 9 (.len (.t 8)),Qi 10 0] [1,2,8,9,10] [2])
 (.block 0 (.loop fy.l0)))
 (.seq (.ai [Qf 31 3 2,Ql 32 31,Qm 33 1,Q 34 (.call 156 [.t 32,.t 33] [] []),Qm 4 34] [4] [])
 (.ret)))
def fy.m:Fn:={np:=2,body:=fy.b,res:=[.tmp 4]}
def fy.k(M:Nat→Option Body):Prop:=M 413=some (.code fy.m)∧cy.k M∧aI.k M
def dO.b:C:= .seq (.ai [Qv 1 0,Q 2 (.alloc [.int .i64 0,.int .i64 0])] [1,2] [1,2])
 (.seq (.ai [Qf 3 1 1,Ql 4 3,Q 5 (.bin .add (.t 4) (kI 1)),Qf 6 0 1,Ql 7 6,Q 8 (.build [.int .i64 0,.int .i64 0] [(0,1,.t 5),(1,1,.t 7)]),Qs 2 2 8] [2] [2])
 (.ret))
def dO.m:Fn:={np:=1,body:=dO.b,res:=[.cell 2 true 2]}
def dO.k(M:Nat→Option Body):Prop:=M 431=some (.code dO.m)
def fY.b:C:= .seq (.ai [Qv 2 0,Qv 3 1,Q 4 (.alloc [.int .i64 0,.int .i64 0,.aL 7,.aL 1]),Qb 5 false] [2,3,4] [2,3,4])
 (.seq (.seq (.ai [QL 6 4 2,Q 7 (.call 150 [.t 6] [] []),Q 8 (.not (.t 7))] [2,3,4,8] [2,3,4])
 (.cond (.t 8) (.seq (.ai [QL 9 4 3,Q 10 (.call 220 [.t 9] [] []),Qs 4 4 10,Qb 5 false] [4,5] [4])
 (.ret)) (.skip)))
 (.seq (.ai [QL 11 4 2,Qs 4 4 11,Qb 5 true] [4,5] [4])
 (.ret)))
def fY.m:Fn:={np:=2,body:=fY.b,res:=[.cell 4 true 4,.tmp 5]}
def fY.k(M:Nat→Option Body):Prop:=M 441=some (.code fY.m)∧aK.k M∧bW.k M
def cU.l0:C:= .seq (.seq (.ai [Qm 27 9,Qf 28 2 8,Ql 29 28,Q 30 (.len (.t 29)),Q 31 (.bin .lss (.t 27) (.t 30)),Qm 32 31,Qg 33 (.bN 2 (.t 8)) 32 true,Qg 34 (.load false 1 (.t 33)) 32 true,
    Qg 35 (.mv (.t 9)) 32 true,Qg 36 (.kG 7 (.t 34) (.t 35)) 32 true,Qg 37 (.bN 0 (.t 36)) 32 true,Qg 38 (.load false 1 (.t 37)) 32 true,Qg 39 (.mv (.t 1)) 32 true,
    Qg 40 (.bin .lss (.t 38) (.t 39)) 32 true,Q 41 (.pick (.t 32) (.t 40) (kB false))] [1,2,3,6,8,9,41] [3,6,8,11102,11103,15700,16102,16103])
 (.cond (.t 41) (.skip) (.exit 0)))
 (.block 1 (.ai [Qm 42 9,Q 43 (.bin .add (.t 42) (kI 1)),Qm 9 43] [1,2,3,6,8,9] [3,6,8,11102,11103,15700,16102,16103]))
def cU.b:C:= .seq (.ai [Qv 3 0,Q 6 (.alloc [.int .i64 0,.int .i64 0,.aL 7,.aL 1]),Qb 7 false] [1,2,3,6] [3,6,11102,11103,15700])
 (.seq (.ai [QL 10 4 3,Q 11 (.call 220 [.t 10] [] [(2,11102),(3,11103)]),Q 8 (.alloc [.int .i64 0,.int .i64 0,.aL 7,.aL 1]),Qs 4 8 11] [1,2,3,6,8] [3,6,8,11102,11103,15700])
 (.seq (.seq (.ai [QL 12 4 3,Q 13 (.call 150 [.t 12] [] []),Q 14 (.not (.t 13)),Qm 15 14,Qg 16 (.load true 4 (.t 3)) 15 false,Qg 17 (.mv (.t 1)) 15 false,
   Qg 18 (.call 413 [.t 16,.t 17] [] []) 15 false,Q 19 (.pick (.t 15) (kB true) (.t 18)),Qm 20 19,Qg 21 (.load true 4 (.t 3)) 20 false,Qg 22 (.mv (.t 2)) 20 false,
   Qg 23 (.call 228 [.t 21,.t 22] [] []) 20 false,Qg 24 (.bin .geq (.t 23) (kI 0)) 20 false,Q 25 (.pick (.t 20) (kB true) (.t 24))] [1,2,3,6,8,25] [3,6,8,11102,11103,15700])
 (.cond (.t 25) (.seq (.shut [11102,11103,15700] (.ai [QL 26 4 8,Qs 4 6 26,Qb 7 false] [6,7] [6,11102,11103,15700]))
 (.ret)) (.skip)))
 (.seq (.ai [Qi 9 0] [1,2,3,6,8,9] [3,6,8,11102,11103,15700])
 (.seq (.block 0 (.loop cU.l0))
 (.seq (.ai [Qf 44 1 8,Ql 45 44,Q 46 (.bin .add (.t 45) (kI 1)),Qf 47 1 8,Qs 1 47 46] [1,2,3,6,8,9] [3,6,8,11102,11103,15700])
 (.seq (.gV [Qf 48 2 8,Ql 49 48,Qm 50 9,Qm 51 1,Qm 52 2,QL 53 4 3,Q 54 (.call 431 [.t 53] [] []),
   Q 55 (.build [.int .i64 0,.str ⟨#[]⟩,.int .i64 0,.int .i64 0,.int .i64 0,.aL 4,.aL 1] [(0,1,.t 51),(1,1,.t 52),(2,2,.t 54),(4,1,kI 1)]),
   Q 56 (.bF 7 1 [.int .i64 0,.str ⟨#[]⟩,.int .i64 0,.int .i64 0,.int .i64 0,.aL 4,.aL 1] [(0,.t 55)]),Q 57 (.call 440 [.t 49,.t 50,.t 56] [0,2] [(0,15700)]),
   Qf 58 2 8,Qs 1 58 57] [[],[0],[],[],[],[],[5],[3,4,5,6],[3,4,5,6,7],lr 9,lr 10,lr 11] [3,6,8] [3,6,8,11102,11103,15700])
 (.seq (.shut [11102,11103,15700] (.ai [QL 59 4 8,QL 60 4 3,Q 61 (.call 441 [.t 59,.t 60] [] []),Qx 62 0 61,Qx 63 1 61,Qs 4 6 62,Qm 7 63] [6,7] [6,11102,11103,15700]))
 (.ret))))))))
def cU.m:Fn:={np:=3,body:=cU.b,res:=[.cell 6 true 4,.tmp 7]}
def cU.k(M:Nat→Option Body):Prop:=M 409=some (.code cU.m)∧aK.k M∧bW.k M∧dG.k M∧fy.k M∧dO.k M∧M 440=some (.ext B9)∧fY.k M
def fa.b:C:= .seq (.ai [Qv 5 0,Q 10 (.alloc [.int .i64 0,.int .i64 0,.aL 7,.aL 1]),Qb 11 false] [1,2,3,4,5,10] [5,10,11702,11703])
 (.seq (.ai [QL 16 4 5,Q 17 (.call 220 [.t 16] [] [(2,11702),(3,11703)]),Q 12 (.alloc [.int .i64 0,.int .i64 0,.aL 7,.aL 1]),Qs 4 12 17] [1,2,3,4,5,10,12] [5,10,12,11702,11703])
 (.seq (.ai [QL 18 4 5,Qm 19 1,Q 20 (.call 95 [.t 18,.t 19] [] []),Qm 13 20] [2,3,4,5,10,12,13] [5,10,12,11702,11703])
 (.seq (.seq (.ai [QL 21 4 5,Q 22 (.call 150 [.t 21] [] []),Q 23 (.not (.t 22)),Qm 24 23,Qg 25 (.load true 4 (.t 5)) 24 false,Qg 26 (.mv (.t 2)) 24 false,
   Qg 27 (.call 413 [.t 25,.t 26] [] []) 24 false,Q 28 (.pick (.t 24) (kB true) (.t 27)),Qm 29 28,Qg 30 (.mv (.t 13)) 29 false,Qg 31 (.bin .lss (.t 30) (kI 0)) 29 false,
   Q 32 (.pick (.t 29) (kB true) (.t 31))] [2,3,4,5,10,12,13,32] [5,10,12,11702,11703])
 (.cond (.t 32) (.seq (.shut [11702,11703] (.ai [QL 33 4 12,Qs 4 10 33,Qb 11 false] [10,11] [10,11702,11703]))
 (.ret)) (.skip)))
 (.seq (.gV [Qf 35 2 5,Ql 36 35,Qm 37 13,Qa 38 7 36 37,QL 39 7 38,Qm 40 2,Qm 41 3,Qm 42 4,QL 43 4 5,Q 44 (.call 431 [.t 43] [] []),
   Q 45 (.call 70 [.t 39,.t 40,.t 41,.t 42,.t 44] [] []),Qm 34 45,Qx 46 0 34,Qx 47 1 34,
   Q 14 (.alloc [.int .i64 0,.str ⟨#[]⟩,.int .i64 0,.int .i64 0,.int .i64 0,.aL 4,.aL 1]),Qs 7 14 46,Qm 15 47] [[],[0],[],[0,1,2],lr 4,[],[],[],[],[8],lr 10,lr 11,lr 12,lr 12,[],lr 13++[14],lr 16] [5,10,12,13,14,15] [5,10,12,14,11702,11703])
 (.seq (.seq (.ai [Qm 48 15,Q 49 (.not (.t 48))] [5,10,12,13,14,49] [5,10,12,14,11702,11703])
 (.cond (.t 49) (.seq (.shut [11702,11703] (.ai [QL 50 4 12,Qs 4 10 50,Qb 11 false] [10,11] [10,11702,11703]))
 (.ret)) (.skip)))
 (.seq (.ai [Qf 51 1 12,Ql 52 51,Q 53 (.bin .add (.t 52) (kI 1)),Qf 54 1 12,Qs 1 54 53] [5,10,12,13,14] [5,10,12,14,11702,11703])
 (.seq (.ai [Qf 55 2 12,Ql 56 55,Qm 57 13,QL 58 7 14,Qa 59 7 56 57,Qs 7 59 58] [5,10,12] [5,10,12,11702,11703])
 (.seq (.shut [11702,11703] (.ai [QL 60 4 12,QL 61 4 5,Q 62 (.call 441 [.t 60,.t 61] [] []),Qx 63 0 62,Qx 64 1 62,Qs 4 10 63,Qm 11 64] [10,11] [10,11702,11703]))
 (.ret)))))))))
def fa.m:Fn:={np:=5,body:=fa.b,res:=[.cell 10 true 4,.tmp 11]}
def fa.k(M:Nat→Option Body):Prop:=M 410=some (.code fa.m)∧dU.k M∧gA.k M∧aK.k M∧bW.k M∧fy.k M∧dO.k M∧fY.k M
def dN.b:C:= .seq (.ai [Qv 3 0,Q 6 (.alloc [.int .i64 0,.int .i64 0,.aL 7,.aL 1]),Qb 7 false] [1,2,3,6] [3,6,11102,11103])
 (.seq (.ai [QL 10 4 3,Q 11 (.call 220 [.t 10] [] [(2,11102),(3,11103)]),Q 8 (.alloc [.int .i64 0,.int .i64 0,.aL 7,.aL 1]),Qs 4 8 11] [1,2,3,6,8] [3,6,8,11102,11103])
 (.seq (.ai [QL 12 4 3,Qm 13 1,Q 14 (.call 95 [.t 12,.t 13] [] []),Qm 9 14] [2,3,6,8,9] [3,6,8,11102,11103])
 (.seq (.seq (.ai [QL 15 4 3,Q 16 (.call 150 [.t 15] [] []),Q 17 (.not (.t 16)),Qm 18 17,Qg 19 (.mv (.t 9)) 18 false,Qg 20 (.bin .lss (.t 19) (kI 0)) 18 false,
   Q 21 (.pick (.t 18) (kB true) (.t 20)),Qm 22 21,Qg 23 (.load true 4 (.t 3)) 22 false,Qg 24 (.mv (.t 2)) 22 false,Qg 25 (.call 228 [.t 23,.t 24] [] []) 22 false,
   Qg 26 (.bin .geq (.t 25) (kI 0)) 22 false,Q 27 (.pick (.t 22) (kB true) (.t 26))] [2,3,6,8,9,27] [3,6,8,11102,11103])
 (.cond (.t 27) (.seq (.shut [11102,11103] (.ai [QL 28 4 8,Qs 4 6 28,Qb 7 false] [6,7] [6,11102,11103]))
 (.ret)) (.skip)))
 (.seq (.ai [Qf 29 1 8,Ql 30 29,Q 31 (.bin .add (.t 30) (kI 1)),Qf 32 1 8,Qs 1 32 31] [2,3,6,8,9] [3,6,8,11102,11103])
 (.seq (.ai [Qf 33 2 8,Ql 34 33,Qm 35 9,Qm 36 2,Qa 37 7 34 35,Qf 38 1 37,Qs 1 38 36] [3,6,8,9] [3,6,8,11102,11103])
 (.seq (.gV [Qf 39 2 8,Ql 40 39,Qm 41 9,QL 42 4 3,Q 43 (.call 431 [.t 42] [] []),Qa 44 7 40 41,Qf 45 2 44,Qs 2 45 43] [[],[0],[],[],[3],lr 5,lr 6,lr 7] [3,6,8] [3,6,8,11102,11103])
 (.seq (.shut [11102,11103] (.ai [QL 46 4 8,QL 47 4 3,Q 48 (.call 441 [.t 46,.t 47] [] []),Qx 49 0 48,Qx 50 1 48,Qs 4 6 49,Qm 7 50] [6,7] [6,11102,11103]))
 (.ret))))))))
def dN.m:Fn:={np:=3,body:=dN.b,res:=[.cell 6 true 4,.tmp 7]}
def dN.k(M:Nat→Option Body):Prop:=M 411=some (.code dN.m)∧gA.k M∧aK.k M∧bW.k M∧dG.k M∧dO.k M∧fY.k M
def bc.b:C:= .seq (.ai [Q 6 (.nil 7)] [0,1,2] [0,26])
 (.seq (.ai [Qm 8 0,Qm 9 1,Qm 10 2,Qm 11 0,Q 12 (.len (.t 11)),Q 13 (.wL 7 (.t 8) (some (.t 9)) (some (.t 10)) (some (.t 12)))] [0,1,2] [0,26])
 (.seq (.seq (.ai [Qm 14 1,Qm 15 2,Q 16 (.bin .eql (.t 14) (.t 15))] [0,1,2,16] [0,26])
 (.cond (.t 16) (.seq (.ai [Qm 17 0,Qm 6 17] [6] [0,6,26])
 (.ret)) (.skip)))
 (.seq (.ai [Qm 18 0,Q 19 (.len (.t 18)),Qm 7 19] [0,1,2,7] [0,26])
 (.seq (.gV [Qm 20 0,Qm 21 1,Q 22 (.wL 7 (.t 20) none (some (.t 21)) none),Qm 23 0,Qm 24 2,Q 25 (.wL 7 (.t 23) (some (.t 24)) none none),Q 26 (.yk 7 96 (.t 22) (.t 25)),Qm 0 26] [[],[],[0,1],[],[],[3,4],lr 6,lr 7] [0,7] [0,26])
 (.seq (.ai [Qm 27 0,Qm 28 0,Q 29 (.len (.t 28)),Qm 30 7,Q 31 (.yc 7 (.t 27) (some (.t 29)) (some (.t 30))),
   Qn (.EH [.int .i64 0,.str ⟨#[]⟩,.int .i64 0,.int .i64 0,.int .i64 0,.aL 4,.aL 1] (.t 31))] [0] [0,26])
 (.seq (.ai [Qm 32 0,Qm 6 32] [6] [0,6,26])
 (.ret)))))))
def bc.m:Fn:={np:=3,body:=bc.b,res:=[.tmp 6]}
def bc.k(M:Nat→Option Body):Prop:=M 442=some (.code bc.m)
def fI.b:C:= .seq (.ai [Qv 2 0,Q 4 (.alloc [.int .i64 0,.int .i64 0,.aL 7,.aL 1]),Qb 5 false] [1,2,4] [2,4,10902,10903,13200,13700])
 (.seq (.ai [QL 8 4 2,Q 9 (.call 220 [.t 8] [] [(2,10902),(3,10903)]),Q 6 (.alloc [.int .i64 0,.int .i64 0,.aL 7,.aL 1]),Qs 4 6 9] [1,2,4,6] [2,4,6,10902,10903,13200,13700])
 (.seq (.ai [QL 10 4 2,Qm 11 1,Q 12 (.call 95 [.t 10,.t 11] [] []),Qm 7 12] [1,2,4,6,7] [2,4,6,10902,10903,13200,13700])
 (.seq (.seq (.ai [QL 13 4 2,Q 14 (.call 150 [.t 13] [] []),Q 15 (.not (.t 14)),Qm 16 15,Qg 17 (.mv (.t 7)) 16 false,Qg 18 (.bin .lss (.t 17) (kI 0)) 16 false,
   Q 19 (.pick (.t 16) (kB true) (.t 18)),Qm 20 19,Qg 21 (.bN 3 (.t 2)) 20 false,Qg 22 (.load false 1 (.t 21)) 20 false,Qg 23 (.len (.t 22)) 20 false,
   Qg 24 (.bin .eql (.t 23) (kI 20)) 20 false,Q 25 (.pick (.t 20) (kB true) (.t 24))] [1,2,4,6,7,25] [2,4,6,10902,10903,13200,13700])
 (.cond (.t 25) (.seq (.shut [10902,10903,13200,13700] (.ai [QL 26 4 6,Qs 4 4 26,Qb 5 false] [4,5] [4,10902,10903,13200,13700]))
 (.ret)) (.skip)))
 (.seq (.ai [Qf 27 2 6,Ql 28 27,Qm 29 7,Qm 30 7,Q 31 (.bin .add (.t 30) (kI 1)),Q 32 (.call 442 [.t 28,.t 29,.t 31] [0] [(0,13200)]),Qf 33 2 6,Qs 1 33 32] [1,2,4,6] [2,4,6,10902,10903,13200,13700])
 (.seq (.ai [Qf 34 3 2,Ql 35 34,Qm 36 1,Q 37 (.call 163 [.t 35,.t 36] [] [(0,13700)]),Qf 38 3 6,Qs 1 38 37] [4,6] [4,6,10902,10903,13200,13700])
 (.seq (.shut [10902,10903,13200,13700] (.ai [QL 39 4 6,Qs 4 4 39,Qb 5 true] [4,5] [4,10902,10903,13200,13700]))
 (.ret)))))))
def fI.m:Fn:={np:=2,body:=fI.b,res:=[.cell 4 true 4,.tmp 5]}
def fI.k(M:Nat→Option Body):Prop:=M 412=some (.code fI.m)∧gA.k M∧aK.k M∧jr.k M∧bW.k M∧bc.k M
def eU.b:C:= .seq (.ai [Qv 4 0,Q 8 (.alloc [.int .i64 0,.int .i64 0,.aL 7,.aL 1]),Qb 9 false] [1,2,3,4,8] [4,8,11502,11503])
 (.seq (.ai [QL 14 4 4,Q 15 (.call 220 [.t 14] [] [(2,11502),(3,11503)]),Q 10 (.alloc [.int .i64 0,.int .i64 0,.aL 7,.aL 1]),Qs 4 10 15] [1,2,3,4,8,10] [4,8,10,11502,11503])
 (.seq (.ai [QL 16 4 4,Qm 17 1,Q 18 (.call 95 [.t 16,.t 17] [] []),Qm 11 18] [2,3,4,8,10,11] [4,8,10,11502,11503])
 (.seq (.seq (.ai [QL 19 4 4,Q 20 (.call 150 [.t 19] [] []),Q 21 (.not (.t 20)),Qm 22 21,Qg 23 (.mv (.t 11)) 22 false,Qg 24 (.bin .lss (.t 23) (kI 0)) 22 false,
   Q 25 (.pick (.t 22) (kB true) (.t 24))] [2,3,4,8,10,11,25] [4,8,10,11502,11503])
 (.cond (.t 25) (.seq (.shut [11502,11503] (.ai [QL 26 4 10,Qs 4 8 26,Qb 9 false] [8,9] [8,11502,11503]))
 (.ret)) (.skip)))
 (.seq (.gV [Qf 28 2 4,Ql 29 28,Qm 30 11,Qa 31 7 29 30,QL 32 7 31,Qm 33 2,Qm 34 3,QL 35 4 4,Q 36 (.call 431 [.t 35] [] []),Q 37 (.call 83 [.t 32,.t 33,.t 34,.t 36] [] []),Qm 27 37,
   Qx 38 0 27,Qx 39 1 27,Q 12 (.alloc [.int .i64 0,.str ⟨#[]⟩,.int .i64 0,.int .i64 0,.int .i64 0,.aL 4,.aL 1]),Qs 7 12 38,Qm 13 39] [[],[0],[],[0,1,2],lr 4,[],[],[],[7],lr 9,lr 10,lr 11,lr 11,[],lr 12++[13],lr 15] [4,8,10,11,12,13] [4,8,10,12,11502,11503])
 (.seq (.seq (.ai [Qm 40 13,Q 41 (.not (.t 40))] [4,8,10,11,12,41] [4,8,10,12,11502,11503])
 (.cond (.t 41) (.seq (.shut [11502,11503] (.ai [QL 42 4 10,Qs 4 8 42,Qb 9 false] [8,9] [8,11502,11503]))
 (.ret)) (.skip)))
 (.seq (.ai [Qf 43 1 10,Ql 44 43,Q 45 (.bin .add (.t 44) (kI 1)),Qf 46 1 10,Qs 1 46 45] [4,8,10,11,12] [4,8,10,12,11502,11503])
 (.seq (.ai [Qf 47 2 10,Ql 48 47,Qm 49 11,QL 50 7 12,Qa 51 7 48 49,Qs 7 51 50] [4,8,10] [4,8,10,11502,11503])
 (.seq (.shut [11502,11503] (.ai [QL 52 4 10,QL 53 4 4,Q 54 (.call 441 [.t 52,.t 53] [] []),Qx 55 0 54,Qx 56 1 54,Qs 4 8 55,Qm 9 56] [8,9] [8,11502,11503]))
 (.ret)))))))))
def eU.m:Fn:={np:=4,body:=eU.b,res:=[.cell 8 true 4,.tmp 9]}
def eU.k(M:Nat→Option Body):Prop:=M 428=some (.code eU.m)∧dF.k M∧gA.k M∧aK.k M∧bW.k M∧dO.k M∧fY.k M
def eV.b:C:= .seq (.ai [Qv 3 0,Q 6 (.alloc [.int .i64 0,.int .i64 0,.aL 7,.aL 1]),Qb 7 false] [1,2,3,6] [3,6,11302,11303])
 (.seq (.ai [QL 12 4 3,Q 13 (.call 220 [.t 12] [] [(2,11302),(3,11303)]),Q 8 (.alloc [.int .i64 0,.int .i64 0,.aL 7,.aL 1]),Qs 4 8 13] [1,2,3,6,8] [3,6,8,11302,11303])
 (.seq (.ai [QL 14 4 3,Qm 15 1,Q 16 (.call 95 [.t 14,.t 15] [] []),Qm 9 16] [2,3,6,8,9] [3,6,8,11302,11303])
 (.seq (.seq (.ai [QL 17 4 3,Q 18 (.call 150 [.t 17] [] []),Q 19 (.not (.t 18)),Qm 20 19,Qg 21 (.mv (.t 9)) 20 false,Qg 22 (.bin .lss (.t 21) (kI 0)) 20 false,
   Q 23 (.pick (.t 20) (kB true) (.t 22))] [2,3,6,8,9,23] [3,6,8,11302,11303])
 (.cond (.t 23) (.seq (.shut [11302,11303] (.ai [QL 24 4 8,Qs 4 6 24,Qb 7 false] [6,7] [6,11302,11303]))
 (.ret)) (.skip)))
 (.seq (.ai [Qf 26 2 3,Ql 27 26,Qm 28 9,Qa 29 7 27 28,QL 30 7 29,Qm 31 2,Q 32 (.call 73 [.t 30,.t 31] [] []),Qm 25 32,Qx 33 0 25,Qx 34 1 25,
   Q 10 (.alloc [.int .i64 0,.str ⟨#[]⟩,.int .i64 0,.int .i64 0,.int .i64 0,.aL 4,.aL 1]),Qs 7 10 33,Qm 11 34] [6,8,9,10,11] [6,8,10,11302,11303])
 (.seq (.seq (.ai [Qm 35 11,Q 36 (.not (.t 35))] [6,8,9,10,36] [6,8,10,11302,11303])
 (.cond (.t 36) (.seq (.shut [11302,11303] (.ai [QL 37 4 8,Qs 4 6 37,Qb 7 false] [6,7] [6,11302,11303]))
 (.ret)) (.skip)))
 (.seq (.ai [Qf 38 2 8,Ql 39 38,Qm 40 9,QL 41 7 10,Qa 42 7 39 40,Qs 7 42 41] [6,8] [6,8,11302,11303])
 (.seq (.shut [11302,11303] (.ai [QL 43 4 8,Qs 4 6 43,Qb 7 true] [6,7] [6,11302,11303]))
 (.ret))))))))
def eV.m:Fn:={np:=3,body:=eV.b,res:=[.cell 6 true 4,.tmp 7]}
def eV.k(M:Nat→Option Body):Prop:=M 429=some (.code eV.m)∧fH.k M∧gA.k M∧aK.k M∧bW.k M
def gU.b:C:= .seq (.ai [Q 2 (.mv (.k (.str ⟨#[]⟩)))] [0] [])
 (.seq (.ai [Qm 3 0,Q 4 (.bin .shr (.t 3) (.k (.int .u64 24))),Q 5 (.ry .u8 (.t 4)),Qm 6 0,Q 7 (.bin .shr (.t 6) (.k (.int .u64 16))),Q 8 (.ry .u8 (.t 7)),Qm 9 0,
   Q 10 (.bin .shr (.t 9) (.k (.int .u64 8))),Q 11 (.ry .u8 (.t 10)),Qm 12 0,Q 13 (.ry .u8 (.t 12)),
   Q 14 (.bF 1 4 [.int .u8 0] [(0,.t 5),(1,.t 8),(2,.t 11),(3,.t 13)]),Q 15 (.EI (.t 14)),Qm 2 15] [2] [])
 (.ret))
def gU.m:Fn:={np:=1,body:=gU.b,res:=[.tmp 2]}
def gU.k(M:Nat→Option Body):Prop:=M 202=some (.code gU.m)
def kK.b:C:= .seq (.ai [Q 2 (.mv (.k (.str ⟨#[]⟩)))] [0] [])
 (.seq (.ai [Qm 3 0,Q 4 (.bin .shr (.t 3) (.k (.int .u64 24))),Q 5 (.ry .u8 (.t 4)),Qm 6 0,Q 7 (.bin .shr (.t 6) (.k (.int .u64 16))),Q 8 (.ry .u8 (.t 7)),Qm 9 0,
   Q 10 (.bin .shr (.t 9) (.k (.int .u64 8))),Q 11 (.ry .u8 (.t 10)),Qm 12 0,Q 13 (.ry .u8 (.t 12)),
   Q 14 (.bF 1 4 [.int .u8 0] [(0,.t 5),(1,.t 8),(2,.t 11),(3,.t 13)]),Q 15 (.EI (.t 14)),Qm 2 15] [2] [])
 (.ret))
def kK.m:Fn:={np:=1,body:=kK.b,res:=[.tmp 2]}
def kK.k(M:Nat→Option Body):Prop:=M 204=some (.code kK.m)
def cC.l1:C:= .seq (.seq (.ai [Qm 20 6,Q 21 (.bin .lss (.t 20) (kI 8))] [0,1,5,6,21] [])
 (.cond (.t 21) (.skip) (.exit 2)))
 (.seq (.block 3 (.seq (.ai [Qm 24 0,Q 25 (.bin .rem (.t 24) (.k (.int .u32 2))),Q 26 (.bin .eql (.t 25) (.k (.int .u32 1))),Qm 7 26] [0,1,5,6,7] [])
 (.seq (.ai [Qm 27 0,Q 28 (.bin .quo (.t 27) (.k (.int .u32 2))),Qm 0 28] [0,1,5,6,7] [])
 (.seq (.ai [Qm 29 7] [0,1,5,6,29] [])
 (.cond (.t 29) (.ai [Qm 30 0,Q 31 (.bin .xor (.t 30) (.k (.int .u32 3558460437))),Qm 0 31] [0,1,5,6] []) (.skip))))))
 (.ai [Qm 22 6,Q 23 (.bin .add (.t 22) (kI 1)),Qm 6 23] [0,1,5,6] []))
def cC.l0:C:= .seq (.seq (.ai [Qm 8 5,Qm 9 1,Q 10 (.ky (.t 9)),Q 11 (.bin .lss (.t 8) (.t 10))] [0,1,5,11] [])
 (.cond (.t 11) (.skip) (.exit 0)))
 (.seq (.block 1 (.seq (.ai [Qm 14 0,Qm 15 1,Qm 16 5,Q 17 (.idx (.t 15) (.t 16)),Q 18 (.ry .u32 (.t 17)),Q 19 (.bin .xor (.t 14) (.t 18)),Qm 0 19] [0,1,5] [])
 (.seq (.ai [Qi 6 0] [0,1,5,6] [])
 (.block 2 (.loop cC.l1)))))
 (.ai [Qm 12 5,Q 13 (.bin .add (.t 12) (kI 1)),Qm 5 13] [0,1,5] []))
def cC.b:C:= .seq (.ai [Q 4 (.mv (.k (.int .u32 0)))] [0,1] [])
 (.seq (.seq (.ai [Qi 5 0] [0,1,5] [])
 (.block 0 (.loop cC.l0)))
 (.seq (.ai [Qm 32 0,Qm 4 32] [4] [])
 (.ret)))
def cC.m:Fn:={np:=2,body:=cC.b,res:=[.tmp 4]}
def cC.k(M:Nat→Option Body):Prop:=M 248=some (.code cC.m)
def jo.b:C:= .seq (.ai [Q 2 (.mv (.k (.int .u32 0)))] [0] [])
 (.seq (.ai [Qm 3 0,Q 4 (.call 248 [.k (.int .u32 4294967295),.t 3] [] []),Qm 2 4] [2] [])
 (.ret))
def jo.m:Fn:={np:=1,body:=jo.b,res:=[.tmp 2]}
def jo.k(M:Nat→Option Body):Prop:=M 201=some (.code jo.m)∧cC.k M
def cD.l1:C:= .seq (.ai [Q 20 (.bin .lss (.t 19) (kI 8))] [0,1,5,19,20] [])
 (.seq (.cond (.t 20) (.skip) (.exit 2))
 (.seq (.block 3 (.seq (.ai [Qm 21 0,Q 22 (.bin .and (.t 21) (.k (.int .u32 1))),Qm 6 22] [0,1,5,6,19] [])
 (.seq (.ai [Qm 23 0,Q 24 (.bin .shr (.t 23) (.k (.int .u64 1))),Qm 0 24] [0,1,5,6,19] [])
 (.seq (.ai [Qm 25 6,Q 26 (.bin .eql (.t 25) (.k (.int .u32 1)))] [0,1,5,19,26] [])
 (.cond (.t 26) (.ai [Qm 27 0,Q 28 (.bin .xor (.t 27) (.k (.int .u32 3558460437))),Qm 0 28] [0,1,5,19] []) (.skip))))))
 (.ai [Q 29 (.bin .add (.t 19) (kI 1)),Qm 19 29] [0,1,5,19] [])))
def cD.l0:C:= .seq (.seq (.ai [Qm 7 5,Qm 8 1,Q 9 (.ky (.t 8)),Q 10 (.bin .lss (.t 7) (.t 9))] [0,1,5,10] [])
 (.cond (.t 10) (.skip) (.exit 0)))
 (.seq (.block 1 (.seq (.ai [Qm 13 0,Qm 14 1,Qm 15 5,Q 16 (.idx (.t 14) (.t 15)),Q 17 (.ry .u32 (.t 16)),Q 18 (.bin .xor (.t 13) (.t 17)),Qm 0 18] [0,1,5] [])
 (.seq (.ai [Qi 19 0] [0,1,5,19] [])
 (.block 2 (.loop cD.l1)))))
 (.ai [Qm 11 5,Q 12 (.bin .add (.t 11) (kI 1)),Qm 5 12] [0,1,5] []))
def cD.b:C:= .seq (.ai [Q 4 (.mv (.k (.int .u32 0)))] [0,1] [])
 (.seq (.seq (.ai [Qi 5 0] [0,1,5] [])
 (.block 0 (.loop cD.l0)))
 (.seq (.ai [Qm 30 0,Qm 4 30] [4] [])
 (.ret)))
def cD.m:Fn:={np:=2,body:=cD.b,res:=[.tmp 4]}
def cD.k(M:Nat→Option Body):Prop:=M 249=some (.code cD.m)
def ju.b:C:= .seq (.ai [Q 2 (.mv (.k (.int .u32 0)))] [0] [])
 (.seq (.ai [Qm 3 0,Q 4 (.call 249 [.k (.int .u32 4294967295),.t 3] [] []),Qm 2 4] [2] [])
 (.ret))
def ju.m:Fn:={np:=1,body:=ju.b,res:=[.tmp 2]}
def ju.k(M:Nat→Option Body):Prop:=M 203=some (.code ju.m)∧cD.k M
def gL.b:C:= .seq (.ai [Q 2 (.mv (.k (.str ⟨#[]⟩))),Qb 3 false] [0] [])
 (.seq (.seq (.ai [Qm 4 0,Q 5 (.ky (.t 4)),Q 6 (.bin .gtr (.t 5) (kI 20000))] [0,6] [])
 (.cond (.t 6) (.seq (.ai [Q 2 (.mv (.k (.str ⟨#[]⟩))),Qb 3 false] [2,3] [])
 (.ret)) (.skip)))
 (.seq (.ai [Qm 7 0,Qm 8 0,Q 9 (.call 201 [.t 8] [] []),Q 10 (.call 202 [.t 9] [] []),Q 11 (.bin .add (.t 7) (.t 10)),Qm 2 11,Qb 3 true] [2,3] [])
 (.ret)))
def gL.m:Fn:={np:=1,body:=gL.b,res:=[.tmp 2,.tmp 3]}
def gL.k(M:Nat→Option Body):Prop:=M 100=some (.code gL.m)∧jo.k M∧gU.k M
def iJ.b:C:= .seq (.ai [Q 2 (.mv (.k (.str ⟨#[]⟩))),Qb 3 false] [0] [])
 (.seq (.seq (.ai [Qm 4 0,Q 5 (.ky (.t 4)),Q 6 (.bin .gtr (.t 5) (kI 20000))] [0,6] [])
 (.cond (.t 6) (.seq (.ai [Q 2 (.mv (.k (.str ⟨#[]⟩))),Qb 3 false] [2,3] [])
 (.ret)) (.skip)))
 (.seq (.ai [Qm 7 0,Qm 8 0,Q 9 (.call 203 [.t 8] [] []),Q 10 (.ry .i64 (.t 9)),Q 11 (.call 204 [.t 10] [] []),Q 12 (.bin .add (.t 7) (.t 11)),Qm 2 12,Qb 3 true] [2,3] [])
 (.ret)))
def iJ.m:Fn:={np:=1,body:=iJ.b,res:=[.tmp 2,.tmp 3]}
def iJ.k(M:Nat→Option Body):Prop:=M 103=some (.code iJ.m)∧ju.k M∧kK.k M
def eO.b:C:= .seq (.ai [Q 2 (.mv (.k (.str ⟨#[]⟩))),Qb 3 false] [0] [])
 (.seq (.ai [Qm 5 0,Q 6 (.ky (.t 5)),Q 7 (.bin .sub (.t 6) (kI 4)),Qm 4 7] [0,4] [])
 (.seq (.seq (.gV [Qm 8 4,Q 9 (.bin .lss (.t 8) (kI 0)),Qm 10 9,Qg 11 (.mv (.t 4)) 10 false,Qg 12 (.bin .gtr (.t 11) (kI 20000)) 10 false,Q 13 (.pick (.t 10) (kB true) (.t 12)),Qm 14 13,
   Qg 15 (.mv (.t 0)) 14 false,Qg 16 (.mv (.t 4)) 14 false,Qg 17 (.oB (.t 15) (some (.t 16)) none) 14 false,Qg 18 (.mv (.t 0)) 14 false,Qg 19 (.mv (.t 4)) 14 false,
   Qg 20 (.oB (.t 18) none (some (.t 19))) 14 false,Qg 21 (.call 201 [.t 20] [] []) 14 false,Qg 22 (.call 202 [.t 21] [] []) 14 false,Qg 23 (.bin .neq (.t 17) (.t 22)) 14 false,
   Q 24 (.pick (.t 14) (kB true) (.t 23))] [[],[0],[0,1],[0,1,2],[0,1,2,3],[0,1,2,3,4],[0,1,2,3,4,5],[0,1,2,3,4,5,6],[0,1,2,3,4,5,6],[0,1,2,3,4,5,6,7,8],[0,1,2,3,4,5,6],[0,1,2,3,4,5,6],[0,1,2,3,4,5,6,10,11],[0,1,2,3,4,5,6,10,11,12],[0,1,2,3,4,5,6,10,11,12,13],[0,1,2,3,4,5,6,7,8,9,10,11,12,13,14],[0,1,2,3,4,5,6,7,8,9,10,11,12,13,14,15]] [0,4,24] [])
 (.cond (.t 24) (.seq (.ai [Q 2 (.mv (.k (.str ⟨#[]⟩))),Qb 3 false] [2,3] [])
 (.ret)) (.skip)))
 (.seq (.ai [Qm 25 0,Qm 26 4,Q 27 (.oB (.t 25) none (some (.t 26))),Qm 2 27,Qb 3 true] [2,3] [])
 (.ret))))
def eO.m:Fn:={np:=1,body:=eO.b,res:=[.tmp 2,.tmp 3]}
def eO.k(M:Nat→Option Body):Prop:=M 167=some (.code eO.m)∧jo.k M∧gU.k M
def gQ.b:C:= .seq (.ai [Qi 4 0] [0,1] [])
 (.seq (.gV [Qm 5 0,Qm 6 1,Q 7 (.idx (.t 5) (.t 6)),Q 8 (.ry .i64 (.t 7)),Q 9 (.bin .shl (.t 8) (.k (.int .u64 24))),Qm 10 0,Qm 11 1,Q 12 (.bin .add (.t 11) (kI 1)),
   Q 13 (.idx (.t 10) (.t 12)),Q 14 (.ry .i64 (.t 13)),Q 15 (.bin .shl (.t 14) (.k (.int .u64 16))),Q 16 (.bin .or (.t 9) (.t 15)),Qm 17 0,Qm 18 1,
   Q 19 (.bin .add (.t 18) (kI 2)),Q 20 (.idx (.t 17) (.t 19)),Q 21 (.ry .i64 (.t 20)),Q 22 (.bin .shl (.t 21) (.k (.int .u64 8))),Q 23 (.bin .or (.t 16) (.t 22)),Qm 24 0,
   Qm 25 1,Q 26 (.bin .add (.t 25) (kI 3)),Q 27 (.idx (.t 24) (.t 26)),Q 28 (.ry .i64 (.t 27)),Q 29 (.bin .or (.t 23) (.t 28)),Qm 4 29] [[],[],[0,1],[0,1,2],[0,1,2,3],[],[],[6],[5,6,7],[5,6,7,8],[5,6,7,8,9],[0,1,2,3,4,5,6,7,8,9,10],[],[],[13],[12,13,14],[12,13,14,15],[12,13,14,15,16],[0,1,2,3,4,5,6,7,8,9,10,11,12,13,14,15,16,17],[],[],[20],[19,20,21],[19,20,21,22],[0,1,2,3,4,5,6,7,8,9,10,11,12,13,14,15,16,17,18,19,20,21,22,23],[0,1,2,3,4,5,6,7,8,9,10,11,12,13,14,15,16,17,18,19,20,21,22,23,24]] [4] [])
 (.ret))
def gQ.m:Fn:={np:=2,body:=gQ.b,res:=[.tmp 4]}
def gQ.k(M:Nat→Option Body):Prop:=M 236=some (.code gQ.m)
def eS.b:C:= .seq (.ai [Q 2 (.mv (.k (.str ⟨#[]⟩))),Qb 3 false] [0] [])
 (.seq (.ai [Qm 5 0,Q 6 (.ky (.t 5)),Q 7 (.bin .sub (.t 6) (kI 4)),Qm 4 7] [0,4] [])
 (.seq (.seq (.ai [Qm 8 4,Q 9 (.call 101 [.t 8,kI 0,kI 20000] [] []),Q 10 (.not (.t 9)),Qm 11 10,Qg 12 (.mv (.t 0)) 11 false,Qg 13 (.mv (.t 4)) 11 false,
   Qg 14 (.oB (.t 12) none (some (.t 13))) 11 false,Qg 15 (.call 203 [.t 14] [] []) 11 false,Qg 16 (.ry .i64 (.t 15)) 11 false,Qg 17 (.mv (.t 0)) 11 false,
   Qg 18 (.mv (.t 4)) 11 false,Qg 19 (.call 236 [.t 17,.t 18] [] []) 11 false,Qg 20 (.bin .neq (.t 16) (.t 19)) 11 false,Q 21 (.pick (.t 11) (kB true) (.t 20))] [0,4,21] [])
 (.cond (.t 21) (.seq (.ai [Q 2 (.mv (.k (.str ⟨#[]⟩))),Qb 3 false] [2,3] [])
 (.ret)) (.skip)))
 (.seq (.ai [Qm 22 0,Qm 23 4,Q 24 (.oB (.t 22) none (some (.t 23))),Qm 2 24,Qb 3 true] [2,3] [])
 (.ret))))
def eS.m:Fn:={np:=1,body:=eS.b,res:=[.tmp 2,.tmp 3]}
def eS.k(M:Nat→Option Body):Prop:=M 168=some (.code eS.m)∧bP.k M∧ju.k M∧gQ.k M
def fm.b:C:= .seq (.ai [Q 2 (.mv (.k (.str ⟨#[]⟩))),Qb 3 false] [0] [])
 (.seq (.seq (.ai [Qm 4 0,Q 5 (.ky (.t 4)),Q 6 (.call 98 [.t 5,kI 1,kI 6000] [] []),Q 7 (.not (.t 6))] [0,7] [])
 (.cond (.t 7) (.seq (.ai [Q 2 (.mv (.k (.str ⟨#[]⟩))),Qb 3 false] [2,3] [])
 (.ret)) (.skip)))
 (.seq (.ai [Qm 8 0,Q 9 (.ky (.t 8)),Q 10 (.call 99 [.t 9] [] []),Qm 11 0,Q 12 (.bin .add (.t 10) (.t 11)),Q 13 (.call 100 [.t 12] [] []),Qx 14 0 13,Qx 15 1 13,Qm 2 14,Qm 3 15] [2,3] [])
 (.ret)))
def fm.m:Fn:={np:=1,body:=fm.b,res:=[.tmp 2,.tmp 3]}
def fm.k(M:Nat→Option Body):Prop:=M 10=some (.code fm.m)∧bE.k M∧bD.k M∧gL.k M
def eC.b:C:= .seq (.ai [Q 4 (.mv (.k (.str ⟨#[]⟩))),Qi 5 0,Qb 6 false] [0,1] [])
 (.seq (.ai [Qm 13 0,Qm 14 1,Q 15 (.call 206 [.t 13,.t 14] [] []),Qm 12 15,Qx 16 0 12,Qx 17 1 12,Qx 18 2 12,Qm 7 16,Qm 8 17,Qm 9 18] [0,1,7,8,9] [])
 (.seq (.seq (.ai [Qm 19 9,Q 20 (.not (.t 19)),Qm 21 20,Qg 22 (.mv (.t 8)) 21 false,Qg 23 (.mv (.t 0)) 21 false,Qg 24 (.ky (.t 23)) 21 false,Qg 25 (.bin .sub (.t 24) (kI 4)) 21 false,
   Qg 26 (.bin .gtr (.t 22) (.t 25)) 21 false,Q 27 (.pick (.t 21) (kB true) (.t 26))] [0,1,7,8,27] [])
 (.cond (.t 27) (.seq (.ai [Q 4 (.mv (.k (.str ⟨#[]⟩))),Qi 5 0,Qb 6 false] [4,5,6] [])
 (.ret)) (.skip)))
 (.seq (.ai [Qm 29 7,Q 30 (.call 10 [.t 29] [] []),Qm 28 30,Qx 31 0 28,Qx 32 1 28,Qm 10 31,Qm 11 32] [0,1,7,8,10,11] [])
 (.seq (.seq (.ai [Qm 33 11,Q 34 (.not (.t 33)),Qm 35 34,Qg 36 (.mv (.t 10)) 35 false,Qg 37 (.mv (.t 0)) 35 false,Qg 38 (.mv (.t 1)) 35 false,Qg 39 (.mv (.t 8)) 35 false,
   Qg 40 (.bin .add (.t 39) (kI 4)) 35 false,Qg 41 (.oB (.t 37) (some (.t 38)) (some (.t 40))) 35 false,Qg 42 (.bin .neq (.t 36) (.t 41)) 35 false,
   Q 43 (.pick (.t 35) (kB true) (.t 42))] [7,8,43] [])
 (.cond (.t 43) (.seq (.ai [Q 4 (.mv (.k (.str ⟨#[]⟩))),Qi 5 0,Qb 6 false] [4,5,6] [])
 (.ret)) (.skip)))
 (.seq (.ai [Qm 44 7,Qm 45 8,Q 46 (.bin .add (.t 45) (kI 4)),Qm 4 44,Qm 5 46,Qb 6 true] [4,5,6] [])
 (.ret))))))
def eC.m:Fn:={np:=2,body:=eC.b,res:=[.tmp 4,.tmp 5,.tmp 6]}
def eC.k(M:Nat→Option Body):Prop:=M 104=some (.code eC.m)∧fm.k M∧cW.k M
def cS.l0:C:= .block 1 (.seq (.ai [Qm 11 0,Qm 12 5,Q 13 (.call 104 [.t 11,.t 12] [] []),Qm 10 13,Qx 14 0 10,Qx 15 1 10,Qx 16 2 10,Qm 6 14,Qm 7 15,Qm 8 16] [0,4,5,6,7,8] [9,24])
 (.seq (.seq (.ai [Qm 17 8,Q 18 (.not (.t 17))] [0,4,5,6,7,18] [9,24])
 (.cond (.t 18) (.seq (.ai [Qm 19 4,Qm 20 5,Qm 2 19,Qm 3 20] [2,3] [2,9,24])
 (.ret)) (.skip)))
 (.seq (.ai [Qm 21 4,Qm 22 6,Q 23 (.bF 1 1 [.str ⟨#[]⟩] [(0,.t 22)]),Q 24 (.app 1 16 (.t 21) (.t 23)),Qm 4 24] [0,4,7] [9,24])
 (.ai [Qm 25 7,Qm 5 25] [0,4,5] [9,24]))))
def cS.b:C:= .seq (.ai [Q 2 (.nil 1),Qi 3 0] [0] [])
 (.seq (.ai [Q 9 (.bF 1 0 [.str ⟨#[]⟩] []),Qm 4 9] [0,4] [9,24])
 (.seq (.ai [Qi 5 0] [0,4,5] [9,24])
 (.block 0 (.loop cS.l0))))
def cS.m:Fn:={np:=1,body:=cS.b,res:=[.tmp 2,.tmp 3]}
def cS.k(M:Nat→Option Body):Prop:=M 12=some (.code cS.m)∧eC.k M
def du.b:C:= .seq (.ai [Q 4 (.mv (.k (.str ⟨#[]⟩))),Qi 5 0,Qb 6 false] [0,1] [])
 (.seq (.ai [Qm 13 0,Qm 14 1,Q 15 (.call 207 [.t 13,.t 14] [] []),Qm 12 15,Qx 16 0 12,Qx 17 1 12,Qx 18 2 12,Qm 7 16,Qm 8 17,Qm 9 18] [0,1,7,8,9] [])
 (.seq (.seq (.ai [Qm 19 9,Q 20 (.not (.t 19)),Qm 21 20,Qg 22 (.mv (.t 7)) 21 false,Qg 23 (.ky (.t 22)) 21 false,Qg 24 (.call 101 [.t 23,kI 1,kI 6000] [] []) 21 false,
   Qg 25 (.not (.t 24)) 21 false,Q 26 (.pick (.t 21) (kB true) (.t 25)),Qm 27 26,Qg 28 (.mv (.t 0)) 27 false,Qg 29 (.ky (.t 28)) 27 false,Qg 30 (.mv (.t 8)) 27 false,
   Qg 31 (.bin .sub (.t 29) (.t 30)) 27 false,Qg 32 (.bin .lss (.t 31) (kI 4)) 27 false,Q 33 (.pick (.t 27) (kB true) (.t 32))] [0,1,7,8,33] [])
 (.cond (.t 33) (.seq (.ai [Q 4 (.mv (.k (.str ⟨#[]⟩))),Qi 5 0,Qb 6 false] [4,5,6] [])
 (.ret)) (.skip)))
 (.seq (.seq (.ai [Qm 35 0,Qm 36 1,Qm 37 8,Q 38 (.bin .add (.t 37) (kI 4)),Q 39 (.oB (.t 35) (some (.t 36)) (some (.t 38))),Q 40 (.call 168 [.t 39] [] []),Qm 34 40,Qx 41 0 34,Qx 42 1 34,
   Qm 10 41,Qm 11 42] [7,8,11] [])
 (.seq (.ai [Qm 43 11,Q 44 (.not (.t 43))] [7,8,44] [])
 (.cond (.t 44) (.seq (.ai [Q 4 (.mv (.k (.str ⟨#[]⟩))),Qi 5 0,Qb 6 false] [4,5,6] [])
 (.ret)) (.skip))))
 (.seq (.ai [Qm 45 7,Qm 46 8,Q 47 (.bin .add (.t 46) (kI 4)),Qm 4 45,Qm 5 47,Qb 6 true] [4,5,6] [])
 (.ret)))))
def du.m:Fn:={np:=2,body:=du.b,res:=[.tmp 4,.tmp 5,.tmp 6]}
def du.k(M:Nat→Option Body):Prop:=M 105=some (.code du.m)∧bP.k M∧eS.k M∧cY.k M
def cT.l0:C:= .block 1 (.seq (.ai [Qm 11 0,Qm 12 5,Q 13 (.call 105 [.t 11,.t 12] [] []),Qm 10 13,Qx 14 0 10,Qx 15 1 10,Qx 16 2 10,Qm 6 14,Qm 7 15,Qm 8 16] [0,4,5,6,7,8] [9,24])
 (.seq (.seq (.ai [Qm 17 8,Q 18 (.not (.t 17))] [0,4,5,6,7,18] [9,24])
 (.cond (.t 18) (.seq (.ai [Qm 19 4,Qm 20 5,Qm 2 19,Qm 3 20] [2,3] [2,9,24])
 (.ret)) (.skip)))
 (.seq (.ai [Qm 21 4,Qm 22 6,Q 23 (.bF 1 1 [.str ⟨#[]⟩] [(0,.t 22)]),Q 24 (.app 1 16 (.t 21) (.t 23)),Qm 4 24] [0,4,7] [9,24])
 (.ai [Qm 25 7,Qm 5 25] [0,4,5] [9,24]))))
def cT.b:C:= .seq (.ai [Q 2 (.nil 1),Qi 3 0] [0] [])
 (.seq (.ai [Q 9 (.bF 1 0 [.str ⟨#[]⟩] []),Qm 4 9] [0,4] [9,24])
 (.seq (.ai [Qi 5 0] [0,4,5] [9,24])
 (.block 0 (.loop cT.l0))))
def cT.m:Fn:={np:=1,body:=cT.b,res:=[.tmp 2,.tmp 3]}
def cT.k(M:Nat→Option Body):Prop:=M 13=some (.code cT.m)∧du.k M
def bL.b:C:= .seq (.ai [Qi 2 0] [0] [0])
 (.seq (.gV [Qm 7 0,Q 8 (.lq (.t 7)),Qf 9 0 8,Ql 10 9,Qm 11 0,Q 12 (.lq (.t 11)),Qf 13 1 12,Ql 14 13,Q 15 (.call 231 [.t 10,.t 14] [] []),Qm 6 15,Qx 16 0 6,Qx 17 1 6,Qx 18 2 6,
   Qm 3 16,Qm 4 17,Qm 5 18] [[],[0],[0,1],[0,1,2],[],[4],[4,5],[4,5,6],lr 8,lr 9,lr 10,lr 10,lr 10,lr 11,lr 12++[13],lr 15] [0,3,4,5] [0])
 (.seq (.seq (.ai [Qm 19 0,Q 20 (.lq (.t 19)),Qf 21 2 20,Ql 22 21,Qm 23 22,Qg 24 (.mv (.t 5)) 23 false,Qg 25 (.not (.t 24)) 23 false,Q 26 (.pick (.t 23) (kB true) (.t 25))] [0,3,4,26] [0])
 (.cond (.t 26) (.seq (.ai [Qm 27 0,Q 28 (.lq (.t 27)),Qf 29 2 28,Qn (.store 1 (.t 29) (kB true))] [] [0])
 (.seq (.ai [Qi 2 0] [2] [0])
 (.ret))) (.skip)))
 (.seq (.ai [Qm 30 0,Qm 31 4,Q 32 (.lq (.t 30)),Qf 33 1 32,Qs 1 33 31] [3] [0])
 (.seq (.ai [Qm 34 3,Qm 2 34] [2] [0])
 (.ret)))))
def bL.m:Fn:={np:=1,body:=bL.b,res:=[.tmp 2]}
def bL.k(M:Nat→Option Body):Prop:=M 152=some (.code bL.m)∧cd.k M
def dL.b:C:= .seq (.ai [Qi 4 0] [0,1] [0])
 (.seq (.ai [Qm 6 0,Q 7 (.call 152 [.t 6] [0] []),Qm 5 7] [0,1,5] [0])
 (.seq (.seq (.ai [Qm 8 5,Qm 9 1,Q 10 (.bin .gtr (.t 8) (.t 9))] [0,5,10] [0])
 (.cond (.t 10) (.ai [Qm 11 0,Q 12 (.lq (.t 11)),Qf 13 2 12,Qn (.store 1 (.t 13) (kB true))] [0,5] [0]) (.skip)))
 (.seq (.seq (.ai [Qm 14 0,Q 15 (.lq (.t 14)),Qf 16 2 15,Ql 17 16] [5,17] [0])
 (.cond (.t 17) (.seq (.ai [Qi 4 0] [4] [0])
 (.ret)) (.skip)))
 (.seq (.ai [Qm 18 5,Qm 4 18] [4] [0])
 (.ret)))))
def dL.m:Fn:={np:=2,body:=dL.b,res:=[.tmp 4]}
def dL.k(M:Nat→Option Body):Prop:=M 169=some (.code dL.m)∧bL.k M
def dX.b:C:= .seq (.ai [Q 2 (.mv (.k (.str ⟨#[]⟩)))] [0] [0])
 (.seq (.gV [Qm 7 0,Q 8 (.lq (.t 7)),Qf 9 0 8,Ql 10 9,Qm 11 0,Q 12 (.lq (.t 11)),Qf 13 1 12,Ql 14 13,Q 15 (.call 207 [.t 10,.t 14] [] []),Qm 6 15,Qx 16 0 6,Qx 17 1 6,Qx 18 2 6,
   Qm 3 16,Qm 4 17,Qm 5 18] [[],[0],[0,1],[0,1,2],[],[4],[4,5],[4,5,6],lr 8,lr 9,lr 10,lr 10,lr 10,lr 11,lr 12++[13],lr 15] [0,3,4,5] [0])
 (.seq (.seq (.ai [Qm 19 0,Q 20 (.lq (.t 19)),Qf 21 2 20,Ql 22 21,Qm 23 22,Qg 24 (.mv (.t 5)) 23 false,Qg 25 (.not (.t 24)) 23 false,Q 26 (.pick (.t 23) (kB true) (.t 25))] [0,3,4,26] [0])
 (.cond (.t 26) (.seq (.ai [Qm 27 0,Q 28 (.lq (.t 27)),Qf 29 2 28,Qn (.store 1 (.t 29) (kB true))] [] [0])
 (.seq (.ai [Q 2 (.mv (.k (.str ⟨#[]⟩)))] [2] [0])
 (.ret))) (.skip)))
 (.seq (.ai [Qm 30 0,Qm 31 4,Q 32 (.lq (.t 30)),Qf 33 1 32,Qs 1 33 31] [3] [0])
 (.seq (.ai [Qm 34 3,Qm 2 34] [2] [0])
 (.ret)))))
def dX.m:Fn:={np:=1,body:=dX.b,res:=[.tmp 2]}
def dX.k(M:Nat→Option Body):Prop:=M 153=some (.code dX.m)∧cY.k M
def fo.b:C:= .seq (.ai [Q 2 (.alloc [.int .i64 0,.int .i64 0])] [0,2] [0,2])
 (.seq (.ai [Qm 4 0,Q 5 (.call 152 [.t 4] [0] []),Q 6 (.build [.int .i64 0,.int .i64 0] [(0,1,.t 5)]),Q 3 (.alloc [.int .i64 0,.int .i64 0]),Qs 2 3 6] [0,2,3] [0,2,3])
 (.seq (.ai [Qm 7 0,Q 8 (.call 152 [.t 7] [0] []),Qf 9 1 3,Qs 1 9 8] [2,3] [0,2,3])
 (.seq (.ai [QL 10 2 3,Qs 2 2 10] [2] [0,2])
 (.ret))))
def fo.m:Fn:={np:=1,body:=fo.b,res:=[.cell 2 true 2]}
def fo.k(M:Nat→Option Body):Prop:=M 222=some (.code fo.m)∧bL.k M
def dp.l0:C:= .seq (.ai [Q 14 (.bin .lss (.t 13) (.t 12))] [0,5,12,13,14] [0,8,20])
 (.seq (.cond (.t 14) (.skip) (.exit 0))
 (.seq (.block 1 (.seq (.ai [Qm 15 0,Q 16 (.call 152 [.t 15] [0] []),Qm 7 16] [0,5,7,12,13] [0,8,20])
 (.ai [Qm 17 5,Qm 18 7,Q 19 (.bF 1 1 [.int .i64 0] [(0,.t 18)]),Q 20 (.app 1 8 (.t 17) (.t 19)),Qm 5 20] [0,5,12,13] [0,8,20])))
 (.ai [Q 21 (.bin .add (.t 13) (kI 1)),Qm 13 21] [0,5,12,13] [0,8,20])))
def dp.b:C:= .seq (.ai [Q 4 (.nil 1)] [0,1] [0])
 (.seq (.ai [Q 8 (.bF 1 0 [.int .i64 0] []),Qm 5 8] [0,1,5] [0,8,20])
 (.seq (.ai [Qm 9 0,Qm 10 1,Q 11 (.call 169 [.t 9,.t 10] [0] []),Qm 6 11] [0,5,6] [0,8,20])
 (.seq (.seq (.ai [Qm 12 6,Qi 13 0] [0,5,12,13] [0,8,20])
 (.block 0 (.loop dp.l0)))
 (.seq (.ai [Qm 22 5,Qm 4 22] [4] [0,4,8,20])
 (.ret)))))
def dp.m:Fn:={np:=2,body:=dp.b,res:=[.tmp 4]}
def dp.k(M:Nat→Option Body):Prop:=M 170=some (.code dp.m)∧bL.k M∧dL.k M
def dM.l0:C:= .seq (.ai [Q 12 (.bin .lss (.t 11) (kI 3))] [0,2,3,11,12] [0,2,3,23])
 (.seq (.cond (.t 12) (.skip) (.exit 0))
 (.seq (.block 1 (.seq (.ai [Qm 13 0,Q 14 (.call 152 [.t 13] [0] []),Q 15 (.build [.int .i64 0,.int .i64 0,.int .i64 0] [(0,1,.t 14)]),Q 4 (.alloc [.int .i64 0,.int .i64 0,.int .i64 0]),Qs 3 4 15] [0,2,3,4,11] [0,2,3,4,23])
 (.seq (.ai [Qm 16 0,Q 17 (.call 222 [.t 16] [0] []),Qf 18 1 4,Qs 2 18 17] [0,2,3,4,11] [0,2,3,4,23])
 (.ai [Qf 19 2 3,Ql 20 19,QL 21 3 4,Q 22 (.bF 3 1 [.int .i64 0,.int .i64 0,.int .i64 0] [(0,.t 21)]),Q 23 (.app 3 24 (.t 20) (.t 22)),Qf 24 2 3,Qs 1 24 23] [0,2,3,11] [0,2,3,23]))))
 (.ai [Q 25 (.bin .add (.t 11) (kI 1)),Qm 11 25] [0,2,3,11] [0,2,3,23])))
def dM.b:C:= .seq (.ai [Q 2 (.alloc [.int .i64 0,.int .i64 0,.aL 3,.str ⟨#[]⟩])] [0,2] [0,2,23])
 (.seq (.ai [Qm 5 0,Q 6 (.call 152 [.t 5] [0] []),Q 7 (.build [.int .i64 0,.int .i64 0,.aL 3,.str ⟨#[]⟩] [(0,1,.t 6)]),Q 3 (.alloc [.int .i64 0,.int .i64 0,.aL 3,.str ⟨#[]⟩]),
   Qs 4 3 7] [0,2,3] [0,2,3,23])
 (.seq (.ai [Qm 8 0,Q 9 (.call 152 [.t 8] [0] []),Qf 10 1 3,Qs 1 10 9] [0,2,3] [0,2,3,23])
 (.seq (.seq (.ai [Qi 11 0] [0,2,3,11] [0,2,3,23])
 (.block 0 (.loop dM.l0)))
 (.seq (.ai [Qm 26 0,Q 27 (.call 153 [.t 26] [0] []),Qf 28 3 3,Qs 1 28 27] [2,3] [0,2,3,23])
 (.seq (.ai [QL 29 4 3,Qs 4 2 29] [2] [0,2,23])
 (.ret))))))
def dM.m:Fn:={np:=1,body:=dM.b,res:=[.cell 2 true 4]}
def dM.k(M:Nat→Option Body):Prop:=M 223=some (.code dM.m)∧bL.k M∧dX.k M∧fo.k M
def dq.l0:C:= .seq (.ai [Q 22 (.bin .lss (.t 21) (.t 20))] [0,2,3,20,21,22] [0,2,3,29,13300])
 (.seq (.cond (.t 22) (.skip) (.exit 0))
 (.seq (.block 1 (.seq (.ai [Qm 23 0,Q 24 (.call 223 [.t 23] [0] []),Q 5 (.alloc [.int .i64 0,.int .i64 0,.aL 3,.str ⟨#[]⟩]),Qs 4 5 24] [0,2,3,5,20,21] [0,2,3,5,29,13300])
 (.ai [Qf 25 5 3,Ql 26 25,QL 27 4 5,Q 28 (.bF 4 1 [.int .i64 0,.int .i64 0,.aL 3,.str ⟨#[]⟩] [(0,.t 27)]),Q 29 (.app 4 56 (.t 26) (.t 28)),Qf 30 5 3,Qs 1 30 29] [0,2,3,20,21] [0,2,3,29,13300])))
 (.ai [Q 31 (.bin .add (.t 21) (kI 1)),Qm 21 31] [0,2,3,20,21] [0,2,3,29,13300])))
def dq.b:C:= .seq (.ai [Q 2 (.alloc [.int .i64 0,.str ⟨#[]⟩,.int .i64 0,.int .i64 0,.int .i64 0,.aL 4,.aL 1])] [0,2] [0,2,29,13300])
 (.seq (.ai [Qm 6 0,Q 7 (.call 152 [.t 6] [0] []),Q 8 (.build [.int .i64 0,.str ⟨#[]⟩,.int .i64 0,.int .i64 0,.int .i64 0,.aL 4,.aL 1] [(0,1,.t 7)]),
   Q 3 (.alloc [.int .i64 0,.str ⟨#[]⟩,.int .i64 0,.int .i64 0,.int .i64 0,.aL 4,.aL 1]),Qs 7 3 8] [0,2,3] [0,2,3,29,13300])
 (.seq (.ai [Qm 9 0,Q 10 (.call 153 [.t 9] [0] []),Qf 11 1 3,Qs 1 11 10] [0,2,3] [0,2,3,29,13300])
 (.seq (.ai [Qm 12 0,Q 13 (.call 222 [.t 12] [0] []),Qf 14 2 3,Qs 2 14 13] [0,2,3] [0,2,3,29,13300])
 (.seq (.ai [Qm 15 0,Q 16 (.call 152 [.t 15] [0] []),Qf 17 4 3,Qs 1 17 16] [0,2,3] [0,2,3,29,13300])
 (.seq (.ai [Qm 18 0,Q 19 (.call 169 [.t 18,kI 10] [0] []),Qm 4 19] [0,2,3,4] [0,2,3,29,13300])
 (.seq (.seq (.ai [Qm 20 4,Qi 21 0] [0,2,3,20,21] [0,2,3,29,13300])
 (.block 0 (.loop dq.l0)))
 (.seq (.ai [Qm 32 0,Q 33 (.call 170 [.t 32,kI 40] [0] [(0,13300)]),Qf 34 6 3,Qs 1 34 33] [2,3] [0,2,3,29,13300])
 (.seq (.ai [QL 35 7 3,Qs 7 2 35] [2] [0,2,29,13300])
 (.ret)))))))))
def dq.m:Fn:={np:=1,body:=dq.b,res:=[.cell 2 true 7]}
def dq.k(M:Nat→Option Body):Prop:=M 143=some (.code dq.m)∧bL.k M∧dX.k M∧dL.k M∧dp.k M∧fo.k M∧dM.k M
def b9.b:C:= .seq (.ai [Qi 2 0] [0] [0])
 (.seq (.gV [Qm 7 0,Q 8 (.lq (.t 7)),Qf 9 0 8,Ql 10 9,Qm 11 0,Q 12 (.lq (.t 11)),Qf 13 1 12,Ql 14 13,Q 15 (.call 221 [.t 10,.t 14] [] []),Qm 6 15,Qx 16 0 6,Qx 17 1 6,Qx 18 2 6,
   Qm 3 16,Qm 4 17,Qm 5 18] [[],[0],[0,1],[0,1,2],[],[4],[4,5],[4,5,6],lr 8,lr 9,lr 10,lr 10,lr 10,lr 11,lr 12++[13],lr 15] [0,3,4,5] [0])
 (.seq (.seq (.ai [Qm 19 0,Q 20 (.lq (.t 19)),Qf 21 2 20,Ql 22 21,Qm 23 22,Qg 24 (.mv (.t 5)) 23 false,Qg 25 (.not (.t 24)) 23 false,Q 26 (.pick (.t 23) (kB true) (.t 25))] [0,3,4,26] [0])
 (.cond (.t 26) (.seq (.ai [Qm 27 0,Q 28 (.lq (.t 27)),Qf 29 2 28,Qn (.store 1 (.t 29) (kB true))] [] [0])
 (.seq (.ai [Qi 2 0] [2] [0])
 (.ret))) (.skip)))
 (.seq (.ai [Qm 30 0,Qm 31 4,Q 32 (.lq (.t 30)),Qf 33 1 32,Qs 1 33 31] [3] [0])
 (.seq (.ai [Qm 34 3,Qm 2 34] [2] [0])
 (.ret)))))
def b9.m:Fn:={np:=1,body:=b9.b,res:=[.tmp 2]}
def b9.k(M:Nat→Option Body):Prop:=M 139=some (.code b9.m)∧b_.k M
def fM.b:C:= .seq (.ai [Q 2 (.mv (.k (.str ⟨#[]⟩)))] [0] [0])
 (.seq (.gV [Qm 7 0,Q 8 (.lq (.t 7)),Qf 9 0 8,Ql 10 9,Qm 11 0,Q 12 (.lq (.t 11)),Qf 13 1 12,Ql 14 13,Q 15 (.call 206 [.t 10,.t 14] [] []),Qm 6 15,Qx 16 0 6,Qx 17 1 6,Qx 18 2 6,
   Qm 3 16,Qm 4 17,Qm 5 18] [[],[0],[0,1],[0,1,2],[],[4],[4,5],[4,5,6],lr 8,lr 9,lr 10,lr 10,lr 10,lr 11,lr 12++[13],lr 15] [0,3,4,5] [0])
 (.seq (.seq (.ai [Qm 19 0,Q 20 (.lq (.t 19)),Qf 21 2 20,Ql 22 21,Qm 23 22,Qg 24 (.mv (.t 5)) 23 false,Qg 25 (.not (.t 24)) 23 false,Q 26 (.pick (.t 23) (kB true) (.t 25))] [0,3,4,26] [0])
 (.cond (.t 26) (.seq (.ai [Qm 27 0,Q 28 (.lq (.t 27)),Qf 29 2 28,Qn (.store 1 (.t 29) (kB true))] [] [0])
 (.seq (.ai [Q 2 (.mv (.k (.str ⟨#[]⟩)))] [2] [0])
 (.ret))) (.skip)))
 (.seq (.ai [Qm 30 0,Qm 31 4,Q 32 (.lq (.t 30)),Qf 33 1 32,Qs 1 33 31] [3] [0])
 (.seq (.ai [Qm 34 3,Qm 2 34] [2] [0])
 (.ret)))))
def fM.m:Fn:={np:=1,body:=fM.b,res:=[.tmp 2]}
def fM.k(M:Nat→Option Body):Prop:=M 140=some (.code fM.m)∧cW.k M
def dR.l0:C:= .seq (.seq (.ai [Qm 11 7,Qm 12 5,Q 13 (.bin .lss (.t 11) (.t 12)),Qm 14 13,Qg 15 (.mv (.t 7)) 14 true,Qg 16 (.mv (.t 1)) 14 true,Qg 17 (.bin .leq (.t 15) (.t 16)) 14 true,
    Q 18 (.pick (.t 14) (.t 17) (kB false)),Qm 19 18,Qg 20 (.mv (.t 0)) 19 true,Qg 21 (.lq (.t 20)) 19 true,Qg 22 (.bN 2 (.t 21)) 19 true,
    Qg 23 (.load false 1 (.t 22)) 19 true,Qg 24 (.not (.t 23)) 19 true,Q 25 (.pick (.t 19) (.t 24) (kB false))] [0,1,5,6,7,25] [0,10,32])
 (.cond (.t 25) (.skip) (.exit 0)))
 (.seq (.block 1 (.ai [Qm 28 6,Qm 29 0,Q 30 (.call 139 [.t 29] [0] []),Q 31 (.bF 1 1 [.int .i64 0] [(0,.t 30)]),Q 32 (.app 1 8 (.t 28) (.t 31)),Qm 6 32] [0,1,5,6,7] [0,10,32]))
 (.ai [Qm 26 7,Q 27 (.bin .add (.t 26) (kI 1)),Qm 7 27] [0,1,5,6,7] [0,10,32]))
def dR.b:C:= .seq (.ai [Q 4 (.nil 1)] [0,1] [0])
 (.seq (.ai [Qm 8 0,Q 9 (.call 139 [.t 8] [0] []),Qm 5 9] [0,1,5] [0])
 (.seq (.ai [Q 10 (.bF 1 0 [.int .i64 0] []),Qm 6 10] [0,1,5,6] [0,10,32])
 (.seq (.seq (.ai [Qi 7 0] [0,1,5,6,7] [0,10,32])
 (.block 0 (.loop dR.l0)))
 (.seq (.ai [Qm 33 6,Qm 4 33] [4] [0,4,10,32])
 (.ret)))))
def dR.m:Fn:={np:=2,body:=dR.b,res:=[.tmp 4]}
def dR.k(M:Nat→Option Body):Prop:=M 142=some (.code dR.m)∧b9.k M
def dj.l0:C:= .seq (.seq (.ai [Qm 21 9,Q 22 (.bin .lss (.t 21) (kI 3))] [4,7,8,9,22] [4,8,14,40])
 (.cond (.t 22) (.skip) (.exit 0)))
 (.seq (.block 1 (.seq (.ai [Qm 25 7,Q 26 (.call 139 [.t 25] [0] []),Q 27 (.build [.int .i64 0,.int .i64 0,.int .i64 0] [(0,1,.t 26)]),Q 10 (.alloc [.int .i64 0,.int .i64 0,.int .i64 0]),Qs 3 10 27] [4,7,8,9,10] [4,8,10,14,40])
 (.seq (.ai [Qm 28 7,Q 29 (.call 139 [.t 28] [0] []),Qf 30 1 10,Qf 31 0 30,Qs 1 31 29] [4,7,8,9,10] [4,8,10,14,40])
 (.seq (.ai [Qm 32 7,Q 33 (.call 139 [.t 32] [0] []),Qf 34 1 10,Qf 35 1 34,Qs 1 35 33] [4,7,8,9,10] [4,8,10,14,40])
 (.ai [Qf 36 2 8,Ql 37 36,QL 38 3 10,Q 39 (.bF 3 1 [.int .i64 0,.int .i64 0,.int .i64 0] [(0,.t 38)]),Q 40 (.app 3 24 (.t 37) (.t 39)),Qf 41 2 8,Qs 1 41 40] [4,7,8,9] [4,8,14,40])))))
 (.ai [Qm 23 9,Q 24 (.bin .add (.t 23) (kI 1)),Qm 9 24] [4,7,8,9] [4,8,14,40]))
def dj.b:C:= .seq (.ai [Q 4 (.alloc [.int .i64 0,.int .i64 0,.aL 3,.str ⟨#[]⟩]),Qi 5 0,Qb 6 false] [0,1,4] [4,40])
 (.seq (.ai [Qm 11 0,Qm 12 1,Q 13 (.build [.str ⟨#[]⟩,.int .i64 0,.bool false] [(0,1,.t 11),(1,1,.t 12)]),Qv 14 13,Qm 7 14] [4,7] [4,14,40])
 (.seq (.ai [Qm 15 7,Q 16 (.call 139 [.t 15] [0] []),Q 17 (.build [.int .i64 0,.int .i64 0,.aL 3,.str ⟨#[]⟩] [(0,1,.t 16)]),
   Q 8 (.alloc [.int .i64 0,.int .i64 0,.aL 3,.str ⟨#[]⟩]),Qs 4 8 17] [4,7,8] [4,8,14,40])
 (.seq (.ai [Qm 18 7,Q 19 (.call 139 [.t 18] [0] []),Qf 20 1 8,Qs 1 20 19] [4,7,8] [4,8,14,40])
 (.seq (.seq (.ai [Qi 9 0] [4,7,8,9] [4,8,14,40])
 (.block 0 (.loop dj.l0)))
 (.seq (.ai [Qm 42 7,Q 43 (.call 140 [.t 42] [0] []),Qf 44 3 8,Qs 1 44 43] [4,7,8] [4,8,14,40])
 (.seq (.seq (.ai [Qm 45 7,Q 46 (.lq (.t 45)),Qf 47 2 46,Ql 48 47,Qm 49 48,Qg 50 (.load true 4 (.t 8)) 49 false,Qg 51 (.call 187 [.t 50] [] []) 49 false,Qg 52 (.not (.t 51)) 49 false,
   Q 53 (.pick (.t 49) (kB true) (.t 52))] [4,7,8,53] [4,8,14,40])
 (.cond (.t 53) (.seq (.ai [Q 54 (.build [.int .i64 0,.int .i64 0,.aL 3,.str ⟨#[]⟩] []),Qs 4 4 54,Qi 5 0,Qb 6 false] [4,5,6] [4,40])
 (.ret)) (.skip)))
 (.seq (.gV [QL 55 4 8,Qm 56 7,Q 57 (.lq (.t 56)),Qf 58 1 57,Ql 59 58,Qs 4 4 55,Qm 5 59,Qb 6 true] [[],[],[1],[1,2],[1,2,3],[0],lr 6,lr 7] [4,5,6] [4,40])
 (.ret))))))))
def dj.m:Fn:={np:=2,body:=dj.b,res:=[.cell 4 true 4,.tmp 5,.tmp 6]}
def dj.k(M:Nat→Option Body):Prop:=M 141=some (.code dj.m)∧b9.k M∧fM.k M∧dJ.k M
def bK.l0:C:= .seq (.seq (.ai [Qm 37 10,Qm 38 9,Q 39 (.bin .lss (.t 37) (.t 38)),Qm 40 39,Qg 41 (.mv (.t 10)) 40 true,Qg 42 (.bin .leq (.t 41) (kI 10)) 40 true,Q 43 (.pick (.t 40) (.t 42) (kB false)),
    Qm 44 43,Qg 45 (.mv (.t 7)) 44 true,Qg 46 (.lq (.t 45)) 44 true,Qg 47 (.bN 2 (.t 46)) 44 true,Qg 48 (.load false 1 (.t 47)) 44 true,Qg 49 (.not (.t 48)) 44 true,
    Q 50 (.pick (.t 44) (.t 49) (kB false))] [0,4,7,8,9,10,50] [4,8,17,70,17700])
 (.cond (.t 50) (.skip) (.exit 0)))
 (.seq (.block 1 (.seq (.ai [Qm 54 0,Qm 55 7,Q 56 (.lq (.t 55)),Qf 57 1 56,Ql 58 57,Q 59 (.call 141 [.t 54,.t 58] [] []),Qm 53 59,Qx 60 0 53,Qx 61 1 53,Qx 62 2 53,
   Q 11 (.alloc [.int .i64 0,.int .i64 0,.aL 3,.str ⟨#[]⟩]),Qs 4 11 60,Qm 12 61,Qm 13 62] [0,4,7,8,9,10,11,12,13] [4,8,11,17,70,17700])
 (.seq (.seq (.ai [Qm 63 13,Q 64 (.not (.t 63))] [0,4,7,8,9,10,11,12,64] [4,8,11,17,70,17700])
 (.cond (.t 64) (.seq (.ai [Q 65 (.build [.int .i64 0,.str ⟨#[]⟩,.int .i64 0,.int .i64 0,.int .i64 0,.aL 4,.aL 1] []),Qs 7 4 65,Qi 5 0,Qb 6 false] [4,5,6] [4,70,17700])
 (.ret)) (.skip)))
 (.seq (.ai [Qf 66 5 8,Ql 67 66,QL 68 4 11,Q 69 (.bF 4 1 [.int .i64 0,.int .i64 0,.aL 3,.str ⟨#[]⟩] [(0,.t 68)]),Q 70 (.app 4 56 (.t 67) (.t 69)),Qf 71 5 8,Qs 1 71 70] [0,4,7,8,9,10,12] [4,8,17,70,17700])
 (.ai [Qm 72 7,Qm 73 12,Q 74 (.lq (.t 72)),Qf 75 1 74,Qs 1 75 73] [0,4,7,8,9,10] [4,8,17,70,17700])))))
 (.ai [Qm 51 10,Q 52 (.bin .add (.t 51) (kI 1)),Qm 10 52] [0,4,7,8,9,10] [4,8,17,70,17700]))
def bK.b:C:= .seq (.ai [Q 4 (.alloc [.int .i64 0,.str ⟨#[]⟩,.int .i64 0,.int .i64 0,.int .i64 0,.aL 4,.aL 1]),Qi 5 0,Qb 6 false] [0,1,4] [4,70,17700])
 (.seq (.ai [Qm 14 0,Qm 15 1,Q 16 (.build [.str ⟨#[]⟩,.int .i64 0,.bool false] [(0,1,.t 14),(1,1,.t 15)]),Qv 17 16,Qm 7 17] [0,4,7] [4,17,70,17700])
 (.seq (.ai [Qm 18 7,Q 19 (.call 139 [.t 18] [0] []),Q 20 (.build [.int .i64 0,.str ⟨#[]⟩,.int .i64 0,.int .i64 0,.int .i64 0,.aL 4,.aL 1] [(0,1,.t 19)]),
   Q 8 (.alloc [.int .i64 0,.str ⟨#[]⟩,.int .i64 0,.int .i64 0,.int .i64 0,.aL 4,.aL 1]),Qs 7 8 20] [0,4,7,8] [4,8,17,70,17700])
 (.seq (.ai [Qm 21 7,Q 22 (.call 140 [.t 21] [0] []),Qf 23 1 8,Qs 1 23 22] [0,4,7,8] [4,8,17,70,17700])
 (.seq (.ai [Qm 24 7,Q 25 (.call 139 [.t 24] [0] []),Qf 26 2 8,Qf 27 0 26,Qs 1 27 25] [0,4,7,8] [4,8,17,70,17700])
 (.seq (.ai [Qm 28 7,Q 29 (.call 139 [.t 28] [0] []),Qf 30 2 8,Qf 31 1 30,Qs 1 31 29] [0,4,7,8] [4,8,17,70,17700])
 (.seq (.ai [Qm 32 7,Q 33 (.call 139 [.t 32] [0] []),Qf 34 4 8,Qs 1 34 33] [0,4,7,8] [4,8,17,70,17700])
 (.seq (.ai [Qm 35 7,Q 36 (.call 139 [.t 35] [0] []),Qm 9 36] [0,4,7,8,9] [4,8,17,70,17700])
 (.seq (.seq (.ai [Qi 10 0] [0,4,7,8,9,10] [4,8,17,70,17700])
 (.block 0 (.loop bK.l0)))
 (.seq (.ai [Qm 76 7,Q 77 (.call 142 [.t 76,kI 40] [0] [(0,17700)]),Qf 78 6 8,Qs 1 78 77] [4,7,8] [4,8,17,70,17700])
 (.seq (.seq (.ai [Qm 79 7,Q 80 (.lq (.t 79)),Qf 81 2 80,Ql 82 81,Qm 83 82,Qg 84 (.load true 7 (.t 8)) 83 false,Qg 85 (.call 88 [.t 84] [] []) 83 false,Qg 86 (.not (.t 85)) 83 false,
   Q 87 (.pick (.t 83) (kB true) (.t 86))] [4,7,8,87] [4,8,17,70,17700])
 (.cond (.t 87) (.seq (.ai [Q 88 (.build [.int .i64 0,.str ⟨#[]⟩,.int .i64 0,.int .i64 0,.int .i64 0,.aL 4,.aL 1] []),Qs 7 4 88,Qi 5 0,Qb 6 false] [4,5,6] [4,70,17700])
 (.ret)) (.skip)))
 (.seq (.gV [QL 89 7 8,Qm 90 7,Q 91 (.lq (.t 90)),Qf 92 1 91,Ql 93 92,Qs 7 4 89,Qm 5 93,Qb 6 true] [[],[],[1],[1,2],[1,2,3],[0],lr 6,lr 7] [4,5,6] [4,70,17700])
 (.ret))))))))))))
def bK.m:Fn:={np:=2,body:=bK.b,res:=[.cell 4 true 7,.tmp 5,.tmp 6]}
def bK.k(M:Nat→Option Body):Prop:=M 52=some (.code bK.m)∧br.k M∧b9.k M∧fM.k M∧dj.k M∧dR.k M
def b6.l0:C:= .seq (.seq (.ai [Qm 24 5,Qf 25 2 1,Ql 26 25,Q 27 (.len (.t 26)),Q 28 (.bin .lss (.t 24) (.t 27))] [1,4,5,28] [1])
 (.cond (.t 28) (.skip) (.exit 0)))
 (.seq (.block 1 (.seq (.ai [Qf 32 2 1,Ql 33 32,Qm 34 5,Qa 35 7 33 34,QL 36 7 35,Q 37 (.call 34 [.t 36] [] []),Qm 31 37,Qx 38 0 31,Qx 39 1 31,Qm 6 38,Qm 7 39] [1,4,5,6] [1])
 (.ai [Qm 40 4,Qm 41 6,Q 42 (.bin .add (.t 40) (.t 41)),Qm 4 42] [1,4,5] [1])))
 (.ai [Qm 29 5,Q 30 (.bin .add (.t 29) (kI 1)),Qm 5 30] [1,4,5] [1]))
def b6.l1:C:= .seq (.seq (.ai [Qm 49 8,Qf 50 3 1,Ql 51 50,Q 52 (.len (.t 51)),Q 53 (.bin .lss (.t 49) (.t 52))] [1,4,8,53] [1])
 (.cond (.t 53) (.skip) (.exit 2)))
 (.seq (.block 3 (.ai [Qm 56 4,Qf 57 3 1,Ql 58 57,Qm 59 8,Qa 60 1 58 59,Ql 61 60,Q 62 (.call 99 [.t 61] [] []),Q 63 (.bin .add (.t 56) (.t 62)),Qm 4 63] [1,4,8] [1]))
 (.ai [Qm 54 8,Q 55 (.bin .add (.t 54) (kI 1)),Qm 8 55] [1,4,8] [1]))
def b6.b:C:= .seq (.ai [Qv 1 0,Q 2 (.mv (.k (.str ⟨#[]⟩))),Qb 3 false] [1] [1])
 (.seq (.seq (.ai [QL 9 4 1,Q 10 (.call 149 [.t 9] [] []),Q 11 (.not (.t 10))] [1,11] [1])
 (.cond (.t 11) (.seq (.ai [Q 2 (.mv (.k (.str ⟨#[]⟩))),Qb 3 false] [2,3] [])
 (.ret)) (.skip)))
 (.seq (.gV [Qf 12 0 1,Ql 13 12,Q 14 (.call 99 [.t 13] [] []),Qf 15 1 1,Ql 16 15,Q 17 (.call 99 [.t 16] [] []),Q 18 (.bin .add (.t 14) (.t 17)),Qf 19 2 1,Ql 20 19,Q 21 (.len (.t 20)),
   Q 22 (.call 99 [.t 21] [] []),Q 23 (.bin .add (.t 18) (.t 22)),Qm 4 23] [[],[0],[0,1],[],[3],lr 5,lr 6,[],[7],[7,8],lr 6++[7,8,9],lr 11,lr 12] [1,4] [1])
 (.seq (.seq (.ai [Qi 5 0] [1,4,5] [1])
 (.block 0 (.loop b6.l0)))
 (.seq (.ai [Qm 43 4,Qf 44 3 1,Ql 45 44,Q 46 (.len (.t 45)),Q 47 (.call 99 [.t 46] [] []),Q 48 (.bin .add (.t 43) (.t 47)),Qm 4 48] [1,4] [1])
 (.seq (.seq (.ai [Qi 8 0] [1,4,8] [1])
 (.block 2 (.loop b6.l1)))
 (.seq (.ai [Qm 64 4,Q 65 (.call 100 [.t 64] [] []),Qx 66 0 65,Qx 67 1 65,Qm 2 66,Qm 3 67] [2,3] [])
 (.ret)))))))
def b6.m:Fn:={np:=1,body:=b6.b,res:=[.tmp 2,.tmp 3]}
def b6.k(M:Nat→Option Body):Prop:=M 60=some (.code b6.m)∧df.k M∧bD.k M∧gL.k M∧aJ.k M
def bh.l0:C:= .seq (.seq (.ai [Qm 33 9,Qm 34 8,Q 35 (.bin .lss (.t 33) (.t 34)),Qm 36 35,Qg 37 (.mv (.t 9)) 36 true,Qg 38 (.bin .leq (.t 37) (kI 5)) 36 true,Q 39 (.pick (.t 36) (.t 38) (kB false)),
    Qm 40 39,Qg 41 (.mv (.t 6)) 40 true,Qg 42 (.lq (.t 41)) 40 true,Qg 43 (.bN 2 (.t 42)) 40 true,Qg 44 (.load false 1 (.t 43)) 40 true,Qg 45 (.not (.t 44)) 40 true,
    Q 46 (.pick (.t 40) (.t 45) (kB false))] [0,2,4,6,7,8,9,46] [2,7,24,66,17300])
 (.cond (.t 46) (.skip) (.exit 0)))
 (.seq (.block 1 (.seq (.ai [Qm 50 4,Qm 51 6,Q 52 (.lq (.t 51)),Qf 53 1 52,Ql 54 53,Q 55 (.call 52 [.t 50,.t 54] [] []),Qm 49 55,Qx 56 0 49,Qx 57 1 49,Qx 58 2 49,
   Q 10 (.alloc [.int .i64 0,.str ⟨#[]⟩,.int .i64 0,.int .i64 0,.int .i64 0,.aL 4,.aL 1]),Qs 7 10 56,Qm 11 57,Qm 12 58] [0,2,4,6,7,8,9,10,11,12] [2,7,10,24,66,17300])
 (.seq (.seq (.ai [Qm 59 12,Q 60 (.not (.t 59))] [0,2,4,6,7,8,9,10,11,60] [2,7,10,24,66,17300])
 (.cond (.t 60) (.seq (.ai [Q 61 (.build [.int .i64 0,.int .i64 0,.aL 7,.aL 1] []),Qs 4 2 61,Qb 3 false] [2,3] [2,66,17300])
 (.ret)) (.skip)))
 (.seq (.ai [Qf 62 2 7,Ql 63 62,QL 64 7 10,Q 65 (.bF 7 1 [.int .i64 0,.str ⟨#[]⟩,.int .i64 0,.int .i64 0,.int .i64 0,.aL 4,.aL 1] [(0,.t 64)]),
   Q 66 (.app 7 96 (.t 63) (.t 65)),Qf 67 2 7,Qs 1 67 66] [0,2,4,6,7,8,9,11] [2,7,24,66,17300])
 (.ai [Qm 68 6,Qm 69 11,Q 70 (.lq (.t 68)),Qf 71 1 70,Qs 1 71 69] [0,2,4,6,7,8,9] [2,7,24,66,17300])))))
 (.ai [Qm 47 9,Q 48 (.bin .add (.t 47) (kI 1)),Qm 9 48] [0,2,4,6,7,8,9] [2,7,24,66,17300]))
def bh.b:C:= .seq (.ai [Q 2 (.alloc [.int .i64 0,.int .i64 0,.aL 7,.aL 1]),Qb 3 false] [0,2] [2,66,17300])
 (.seq (.ai [Qm 16 0,Q 17 (.call 167 [.t 16] [] []),Qm 15 17,Qx 18 0 15,Qx 19 1 15,Qm 4 18,Qm 5 19] [0,2,4,5] [2,66,17300])
 (.seq (.ai [Qm 20 4,Qm 21 5,Q 22 (.not (.t 21)),Q 23 (.build [.str ⟨#[]⟩,.int .i64 0,.bool false] [(0,1,.t 20),(2,1,.t 22)]),Qv 24 23,Qm 6 24] [0,2,4,6] [2,24,66,17300])
 (.seq (.ai [Qm 25 6,Q 26 (.call 139 [.t 25] [0] []),Q 27 (.build [.int .i64 0,.int .i64 0,.aL 7,.aL 1] [(0,1,.t 26)]),Q 7 (.alloc [.int .i64 0,.int .i64 0,.aL 7,.aL 1]),
   Qs 4 7 27] [0,2,4,6,7] [2,7,24,66,17300])
 (.seq (.ai [Qm 28 6,Q 29 (.call 139 [.t 28] [0] []),Qf 30 1 7,Qs 1 30 29] [0,2,4,6,7] [2,7,24,66,17300])
 (.seq (.ai [Qm 31 6,Q 32 (.call 139 [.t 31] [0] []),Qm 8 32] [0,2,4,6,7,8] [2,7,24,66,17300])
 (.seq (.seq (.ai [Qi 9 0] [0,2,4,6,7,8,9] [2,7,24,66,17300])
 (.block 0 (.loop bh.l0)))
 (.seq (.ai [Qm 72 6,Q 73 (.call 142 [.t 72,kI 20] [0] [(0,17300)]),Qf 74 3 7,Qs 1 74 73] [0,2,6,7] [2,7,24,66,17300])
 (.seq (.ai [QL 76 4 7,Q 77 (.call 60 [.t 76] [] []),Qm 75 77,Qx 78 0 75,Qx 79 1 75,Qm 13 78,Qm 14 79] [0,2,6,7,13,14] [2,7,24,66,17300])
 (.seq (.seq (.ai [Qm 80 6,Q 81 (.lq (.t 80)),Qf 82 2 81,Ql 83 82,Qm 84 83,Qg 85 (.mv (.t 14)) 84 false,Qg 86 (.not (.t 85)) 84 false,Q 87 (.pick (.t 84) (kB true) (.t 86)),Qm 88 87,
   Qg 89 (.mv (.t 13)) 88 false,Qg 90 (.mv (.t 0)) 88 false,Qg 91 (.bin .neq (.t 89) (.t 90)) 88 false,Q 92 (.pick (.t 88) (kB true) (.t 91))] [2,7,92] [2,7,66,17300])
 (.cond (.t 92) (.seq (.ai [Q 93 (.build [.int .i64 0,.int .i64 0,.aL 7,.aL 1] []),Qs 4 2 93,Qb 3 false] [2,3] [2,66,17300])
 (.ret)) (.skip)))
 (.seq (.ai [QL 94 4 7,Qs 4 2 94,Qb 3 true] [2,3] [2,66,17300])
 (.ret)))))))))))
def bh.m:Fn:={np:=1,body:=bh.b,res:=[.cell 2 true 4,.tmp 3]}
def bh.k(M:Nat→Option Body):Prop:=M 75=some (.code bh.m)∧bK.k M∧b6.k M∧b9.k M∧dR.k M∧eO.k M
def bB.l0:C:= .seq (.ai [Q 28 (.bin .lss (.t 27) (.t 26))] [2,4,5,6,7,26,27,28] [2,7,17,35,13900])
 (.seq (.cond (.t 28) (.skip) (.exit 0))
 (.seq (.block 1 (.seq (.ai [Qm 29 6,Q 30 (.call 143 [.t 29] [0] []),Q 9 (.alloc [.int .i64 0,.str ⟨#[]⟩,.int .i64 0,.int .i64 0,.int .i64 0,.aL 4,.aL 1]),Qs 7 9 30] [2,4,5,6,7,9,26,27] [2,7,9,17,35,13900])
 (.ai [Qf 31 2 7,Ql 32 31,QL 33 7 9,Q 34 (.bF 7 1 [.int .i64 0,.str ⟨#[]⟩,.int .i64 0,.int .i64 0,.int .i64 0,.aL 4,.aL 1] [(0,.t 33)]),Q 35 (.app 7 96 (.t 32) (.t 34)),
   Qf 36 2 7,Qs 1 36 35] [2,4,5,6,7,26,27] [2,7,17,35,13900])))
 (.ai [Q 37 (.bin .add (.t 27) (kI 1)),Qm 27 37] [2,4,5,6,7,26,27] [2,7,17,35,13900])))
def bB.b:C:= .seq (.ai [Q 2 (.alloc [.int .i64 0,.int .i64 0,.aL 7,.aL 1]),Qb 3 false] [0,2] [2,35,13900])
 (.seq (.ai [Qm 11 0,Q 12 (.call 168 [.t 11] [] []),Qm 10 12,Qx 13 0 10,Qx 14 1 10,Qm 4 13,Qm 5 14] [2,4,5] [2,35,13900])
 (.seq (.ai [Qm 15 4,Q 16 (.build [.str ⟨#[]⟩,.int .i64 0,.bool false] [(0,1,.t 15)]),Qv 17 16,Qm 6 17] [2,4,5,6] [2,17,35,13900])
 (.seq (.ai [Qm 18 6,Q 19 (.call 152 [.t 18] [0] []),Q 20 (.build [.int .i64 0,.int .i64 0,.aL 7,.aL 1] [(0,1,.t 19)]),Q 7 (.alloc [.int .i64 0,.int .i64 0,.aL 7,.aL 1]),
   Qs 4 7 20] [2,4,5,6,7] [2,7,17,35,13900])
 (.seq (.ai [Qm 21 6,Q 22 (.call 152 [.t 21] [0] []),Qf 23 1 7,Qs 1 23 22] [2,4,5,6,7] [2,7,17,35,13900])
 (.seq (.ai [Qm 24 6,Q 25 (.call 169 [.t 24,kI 5] [0] []),Qm 8 25] [2,4,5,6,7,8] [2,7,17,35,13900])
 (.seq (.seq (.ai [Qm 26 8,Qi 27 0] [2,4,5,6,7,26,27] [2,7,17,35,13900])
 (.block 0 (.loop bB.l0)))
 (.seq (.ai [Qm 38 6,Q 39 (.call 170 [.t 38,kI 20] [0] [(0,13900)]),Qf 40 3 7,Qs 1 40 39] [2,4,5,6,7] [2,7,17,35,13900])
 (.seq (.seq (.ai [Qm 41 5,Q 42 (.not (.t 41)),Qm 43 42,Qg 44 (.mv (.t 6)) 43 false,Qg 45 (.lq (.t 44)) 43 false,Qg 46 (.bN 2 (.t 45)) 43 false,Qg 47 (.load false 1 (.t 46)) 43 false,
   Q 48 (.pick (.t 43) (kB true) (.t 47)),Qm 49 48,Qg 50 (.mv (.t 6)) 49 false,Qg 51 (.lq (.t 50)) 49 false,Qg 52 (.bN 1 (.t 51)) 49 false,
   Qg 53 (.load false 1 (.t 52)) 49 false,Qg 54 (.mv (.t 4)) 49 false,Qg 55 (.ky (.t 54)) 49 false,Qg 56 (.bin .neq (.t 53) (.t 55)) 49 false,
   Q 57 (.pick (.t 49) (kB true) (.t 56)),Qm 58 57,Qg 59 (.load true 4 (.t 7)) 58 false,Qg 60 (.call 150 [.t 59] [] []) 58 false,Qg 61 (.not (.t 60)) 58 false,
   Q 62 (.pick (.t 58) (kB true) (.t 61))] [2,7,62] [2,7,35,13900])
 (.cond (.t 62) (.seq (.ai [Q 63 (.build [.int .i64 0,.int .i64 0,.aL 7,.aL 1] []),Qs 4 2 63,Qb 3 false] [2,3] [2,35,13900])
 (.ret)) (.skip)))
 (.seq (.ai [QL 64 4 7,Qs 4 2 64,Qb 3 true] [2,3] [2,35,13900])
 (.ret))))))))))
def bB.m:Fn:={np:=1,body:=bB.b,res:=[.cell 2 true 4,.tmp 3]}
def bB.k(M:Nat→Option Body):Prop:=M 76=some (.code bB.m)∧dq.k M∧aK.k M∧bL.k M∧eS.k M∧dL.k M∧dp.k M
def cX.l0:C:= .seq (.ai [Q 23 (.bin .lss (.t 22) (.t 21))] [1,4,20,21,22,23] [1])
 (.seq (.cond (.t 23) (.skip) (.exit 0))
 (.seq (.block 1 (.seq (.ai [Qa 24 7 20 22,QL 25 7 24,Q 6 (.alloc [.int .i64 0,.str ⟨#[]⟩,.int .i64 0,.int .i64 0,.int .i64 0,.aL 4,.aL 1]),Qs 7 6 25] [1,4,6,20,21,22] [1,6])
 (.ai [Qm 26 4,QL 27 7 6,Q 28 (.call 123 [.t 27] [] []),Q 29 (.bin .add (.t 26) (.t 28)),Qm 4 29] [1,4,20,21,22] [1])))
 (.ai [Q 30 (.bin .add (.t 22) (kI 1)),Qm 22 30] [1,4,20,21,22] [1])))
def cX.b:C:= .seq (.ai [Qv 1 0,Q 2 (.mv (.k (.str ⟨#[]⟩))),Qb 3 false] [1] [1])
 (.seq (.seq (.ai [QL 7 4 1,Q 8 (.call 150 [.t 7] [] []),Q 9 (.not (.t 8))] [1,9] [1])
 (.cond (.t 9) (.seq (.ai [Q 2 (.mv (.k (.str ⟨#[]⟩))),Qb 3 false] [2,3] [])
 (.ret)) (.skip)))
 (.seq (.ai [Qf 10 0 1,Ql 11 10,Qf 12 1 1,Ql 13 12,Qf 14 2 1,Ql 15 14,Q 16 (.len (.t 15)),Q 17 (.bF 1 3 [.int .i64 0] [(0,.t 11),(1,.t 13),(2,.t 16)]),
   Q 18 (.call 151 [.t 17] [] []),Qm 4 18] [1,4] [1])
 (.seq (.seq (.ai [Qf 19 2 1,Ql 20 19,Q 21 (.len (.t 20)),Qi 22 0] [1,4,20,21,22] [1])
 (.block 0 (.loop cX.l0)))
 (.seq (.gV [Qm 31 4,Qf 32 3 1,Ql 33 32,Q 34 (.len (.t 33)),Q 35 (.bF 1 1 [.int .i64 0] [(0,.t 34)]),Q 36 (.call 151 [.t 35] [] []),Q 37 (.bin .add (.t 31) (.t 36)),Qf 38 3 1,
   Ql 39 38,Q 40 (.call 151 [.t 39] [] []),Q 41 (.bin .add (.t 37) (.t 40)),Q 42 (.call 103 [.t 41] [] []),Qx 43 0 42,Qx 44 1 42,Qm 2 43,Qm 3 44] [[],[],[1],[1,2],[1,2,3],[1,2,3,4],lr 6,[],[7],[1,2,3,4,5,7,8],lr 10,lr 11,lr 12,lr 12,lr 14,lr 15] [2,3] [])
 (.ret)))))
def cX.m:Fn:={np:=1,body:=cX.b,res:=[.tmp 2,.tmp 3]}
def cX.k(M:Nat→Option Body):Prop:=M 61=some (.code cX.m)∧iJ.k M∧e_.k M∧aK.k M∧fE.k M
def fR.b:C:= .seq (.ai [Qv 2 0,Qv 3 1,Qb 4 false] [2,3] [2,3])
 (.seq (.ai [QL 10 4 2,Q 11 (.call 60 [.t 10] [] []),Qm 9 11,Qx 12 0 9,Qx 13 1 9,Qm 5 12,Qm 6 13] [3,5,6] [3])
 (.seq (.ai [QL 15 4 3,Q 16 (.call 60 [.t 15] [] []),Qm 14 16,Qx 17 0 14,Qx 18 1 14,Qm 7 17,Qm 8 18] [5,6,7,8] [])
 (.seq (.ai [Qm 19 6,Qm 20 8,Q 21 (.beq false (.t 19) (.t 20)),Qm 22 21,Qg 23 (.mv (.t 5)) 22 true,Qg 24 (.mv (.t 7)) 22 true,Qg 25 (.bin .eql (.t 23) (.t 24)) 22 true,
   Q 26 (.pick (.t 22) (.t 25) (kB false)),Qm 4 26] [4] [])
 (.ret))))
def fR.m:Fn:={np:=2,body:=fR.b,res:=[.tmp 4]}
def fR.k(M:Nat→Option Body):Prop:=M 62=some (.code fR.m)∧b6.k M
def gD.b:C:= .seq (.ai [Qv 2 0,Qv 3 1,Qb 4 false] [2,3] [2,3])
 (.seq (.ai [QL 10 4 2,Q 11 (.call 61 [.t 10] [] []),Qm 9 11,Qx 12 0 9,Qx 13 1 9,Qm 5 12,Qm 6 13] [3,5] [3])
 (.seq (.ai [QL 15 4 3,Q 16 (.call 61 [.t 15] [] []),Qm 14 16,Qx 17 0 14,Qx 18 1 14,Qm 7 17,Qm 8 18] [5,7] [])
 (.seq (.ai [Qm 19 5,Qm 20 7,Q 21 (.bin .eql (.t 19) (.t 20)),Qm 4 21] [4] [])
 (.ret))))
def gD.m:Fn:={np:=2,body:=gD.b,res:=[.tmp 4]}
def gD.k(M:Nat→Option Body):Prop:=M 63=some (.code gD.m)∧cX.k M
end Mx
