/-
  What more of the functions compute, each by a small evaluation; no condition beyond what each says.
-/
import Derived.Lib.SlicesCompact
import Derived.HandedShaped
import Derived.Deep.Draws
import Derived.Handed
import Derived.LaidLaws
import Derived.LaidMore
import Derived.Lay
import Derived.SevenTiedAt
import Derived.Stop.Joined
import Derived.Test.YtcihgbflbmhkbaaDoorMxSeb
set_option maxHeartbeats 16000000
set_option linter.unusedSimpArgs false
set_option linter.unusedVariables false
namespace Mx
open Go
def mo(kt ko:List Nat)(n:Nat):Option (List (Nat×V)×List (Nat×Ob))→Option (Out×St)
 |none=>none
 |some r=>some (.normal,{t:=keep kt r.1,o:=keep ko r.2,n:=n})
theorem lN(kt ko:List Nat)(n:Nat)(t:List (Nat×V))(o:List (Nat×Ob)):mo kt ko n (some (t,o))=some (.normal,{t:=keep kt t,o:=keep ko o,n:=n}):=rfl
theorem lO(kt ko:List Nat)(n:Nat):mo kt ko n none=none:=rfl
theorem qc(cf:ay)(k:Nat)(s:St)(ops:List dj)(kt ko:List Nat):bH cf k (.aD ops kt ko) s=mo kt ko (s.n+16*ops.length) (steps cf s.n 0 ops s.t s.o):=by
 simp only[bH];cases steps cf s.n 0 ops s.t s.o<;>rfl
theorem oF(cf:ay)(k:Nat)(s:St)(ops:List dj)(anc:List (List Nat))(kt ko:List Nat):bH cf k (.gC ops anc kt ko) s=mo kt ko (s.n+16*ops.length) (bR cf s.n 0 ops anc s.t s.o []):=by
 simp only[bH];cases bR cf s.n 0 ops anc s.t s.o []<;>rfl
theorem oD(cf:ay)(k:Nat)(s:St):bH cf k .skip s=some (.normal,s):=rfl
theorem p_(cf:ay)(k:Nat)(s:St)(a b:C):bH cf k (.seq a b) s=match bH cf k a s with|some (.normal,s')=>bH cf k b s'|r=>r:=rfl
theorem oJ(cf:ay)(k:Nat)(s:St)(c:Nat)(a b:C):bH cf k (.cond (.t c) a b) s=match ei s.t (.t c) with|some true=>bH cf k a s|some false=>bH cf k b s|none=>none:=rfl
theorem ni(cf:ay)(k:Nat)(s:St)(id:Nat)(a:C):bH cf k (.block id a) s=match bH cf k a s with|some (.exit id',s')=>some (if id'=id then(.normal,s') else(.exit id',s'))|r=>r:=rfl
theorem oH(cf:ay)(k:Nat)(s:St)(a:C):bH cf k (.loop a) s=ca (bH cf k a) k s:=rfl
theorem oI(cf:ay)(k:Nat)(s:St)(id:Nat):bH cf k (.exit id) s=some (.exit id,s):=rfl
theorem qb(cf:ay)(k:Nat)(s:St):bH cf k .ret s=some (.ret,s):=rfl
theorem oE(cf:ay)(k:Nat)(s:St)(ids:List Nat)(a:C):bH cf k (.shut ids a) s=bH cf k a {s with o:=gB ids s.o}:=rfl
theorem rk(n i:Nat):(lr n).contains i=decide (i<n):=by
 simp only[lr,List.contains_eq_mem,List.mem_range]
theorem pR(n i:Nat)(l:List Nat):(lr n++l).contains i=(decide (i<n)||l.contains i):=by
 simp only[lr,List.contains_eq_mem,fa,List.mem_range,Bool.decide_or]
def r4:Option Ob→List Nat
 |some b=>if b.bx then b.rows.flatMap fun r=>r.flatMap ev else []
 |none=>[]
def nd(o:List (Nat×Ob)):List Nat→List Nat
 |[]=>[]
 |id::r=>r4 (get o id)++nd o r
def kW(o:List (Nat×Ob)):List T→List Nat
 |[]=>[]
 |t::ts=>(ev t++nd o (ev t))++kW o ts
def pV(o:List (Nat×Ob)):Option V→List Nat
 |some (.c t)=>ev t++nd o (ev t)
 |some (.a ts)=>kW o ts
 |_=>[]
def iE(t:List (Nat×V))(o:List (Nat×Ob)):List Nat→List Nat
 |[]=>[]
 |x::xs=>pV o (get t x)++iE t o xs
theorem kg(o:List (Nat×Ob)):∀l,l.flatMap (gI o)=nd o l
 |[]=>rfl
 |x::l=>by
  rw[bY,kg o l,nd];congr 1
theorem kV(o:List (Nat×Ob)):∀ts:List T,(ts.flatMap fun t=>ev t++(ev t).flatMap (gI o))=kW o ts
 |[]=>rfl
 |t::ts=>by rw[bY,kV o ts,kW,kg]
theorem jw(t:List (Nat×V))(o:List (Nat×Ob)):∀l:List Nat,(l.flatMap fun x=>match get t x with|some v=>gj o v|none=>[])=iE t o l
 |[]=>rfl
 |x::l=>by
  rw[bY,jw t o l,iE];congr 1;cases h:get t x with
  |none=>rfl
  |some v=>
   cases v with
   |c t=>simp only[gj,pV,kg]
   |a ts=>simp only[gj,pV,kV]
   |_=>rfl
theorem nP(t:List (Nat×V))(o:List (Nat×Ob))(m:MO):dh t o m=iE t o m.lS:=jw t o _
attribute [simp] r4 nd kW pV iE
def nS(t:List (Nat×V))(o:List (Nat×Ob))(d:Option Nat):po→Option (List (Nat×V)×List (Nat×Ob))
 |none=>none
 |some r=>some (dw t d r.1,r.2++o)
theorem lB(t:List (Nat×V))(o:List (Nat×Ob))(d:Option Nat)(v:V)(u:List (Nat×Ob)):nS t o d (some (v,u))=some (dw t d v,u++o):=rfl
theorem lC(t:List (Nat×V))(o:List (Nat×Ob))(d:Option Nat):nS t o d none=none:=rfl
theorem step_eq(cf:ay)(n i:Nat)(m:dj)(t:List (Nat×V))(o:List (Nat×Ob)):step cf n i m t o=match wanted t m.guard with
  |some true=>nS t o m.dst (act cf (n+16*i) (m.dst.getD 0) t o m.op)
  |some false=>some (dw t m.dst .undef,o)
  |none=>none:=by
 unfold step;cases wanted t m.guard with
 |none=>rfl
 |some b=>cases b with
  |false=>rfl
  |true=>simp only[];cases act cf (n+16*i) (m.dst.getD 0) t o m.op<;>rfl
def nT(t:List (Nat×V))(d:Option Nat):po→Option (List (Nat×V))
 |none=>none
 |some r=>some (dw t d r.1)
theorem lD(t:List (Nat×V))(d:Option Nat)(r:V×List (Nat×Ob)):nT t d (some r)=some (dw t d r.1):=rfl
theorem lE(t:List (Nat×V))(d:Option Nat):nT t d none=none:=rfl
theorem nU(cf:ay)(n i:Nat)(m:dj)(t:List (Nat×V))(o:List (Nat×Ob)):ec cf n i m t o=match wanted t m.guard with
  |some true=>nT t m.dst (dg cf (n+16*i) (m.dst.getD 0) t o m.op)
  |some false=>some (dw t m.dst .undef)
  |none=>none:=by
 unfold ec;cases wanted t m.guard with
 |none=>rfl
 |some b=>cases b with
  |false=>rfl
  |true=>simp only[];cases dg cf (n+16*i) (m.dst.getD 0) t o m.op<;>rfl
def eh{α:Type}:Nat→List α→List (Nat×α)
 |_,[]=>[]
 |i,x::xs=>(i,x)::eh (i+1) xs
theorem kz{α:Type}:∀(l:List α) (a n:Nat),l.length≤n→(List.range' a n).zip l=eh a l
 |[],a,n,_=>by simp[eh]
 |x::xs,a,0,h=>by simp at h
 |x::xs,a,n+1,h=>by
  simp only[ak] at h;rw[List.range'_succ,List.zip_cons_cons,eh,kz xs (a+1) n (by omega)]
theorem mL{α:Type}(n:Nat)(l:List α)(h:l.length≤n):(List.range n).zip l=eh 0 l:=by
 rw[List.range_eq_range',kz l 0 n h]
attribute [simp] eh mL
def rR:Option Ob→Nat
 |none=>0
 |some b=>b.aw
def kQ(o:List (Nat×Ob)):List (Nat×Nat×Ob)→List (Nat×Nat×Nat)
 |[]=>[]
 |l::r=>(l.1,l.2.1,rR (get o l.2.1))::kQ o r
theorem kP(o:List (Nat×Ob)):∀ls:List (Nat×Nat×Ob),(ls.map fun l=>(l.1,l.2.1,(get o l.2.1).elim 0 (·.aw)))=kQ o ls
 |[]=>rfl
 |l::r=>by
  rw[aY,kP o r,kQ];congr 2;cases get o l.2.1<;>rfl
theorem nm(cf:ay)(n:Nat)(o:List (Nat×Ob))(f:Nat)(vals:List V)(lend:List Nat)(thaw:List (Nat×Nat)):bS cf n o f vals lend thaw=
 match args o lend 0 vals with
 |none=>none
 |some (as,ls,b)=>
  if vals.length≤1000∧(ls.map (·.2.1)).all (fun id=> !b.contains id)∧(ls.map (·.2.1)).Nodup then
   match cf f as (ls.map fun l=>(l.1,l.2.2)) with
   |none=>none
   |some (res,after)=>
    match cE n o after ls,back n (kQ o ls) thaw res with
    |some bf,some (v,ups')=>if b.isEmpty∨(res.flat∧bf.all fun u=>u.2.rows.all (·.all T.scalar)) then some (v,bf++ups') else none
    |_,_=>none
  else none:=by
 unfold bS;cases args o lend 0 vals with
 |none=>rfl
 |some r=>obtain⟨as,ls,b⟩:=r;simp only[kP];rfl
attribute [simp] rR kQ
attribute [simp] lN lO qc oF oD p_ oJ ni oH oI qb oE rk pR nP lB lC step_eq lD lE nU nm
theorem qm(k:IntKind)(x y:Int):oT k x y=k.wrap (((x%((2^k.bits:Nat):Int)).toNat&&&(y%((2^k.bits:Nat):Int)).toNat:Nat):Int):=by
 unfold oT;rw[BitVec.toNat_and,BitVec.toNat_ofInt,BitVec.toNat_ofInt]
theorem oP:gK []=[]:=rfl
attribute [simp] oP
end Mx
namespace Mx
open Go
variable {M:Nat→Option Body}
def byteOf(x:Int):UInt8:=UInt8.ofNat (x%256).toNat
def four(x:Int):List UInt8:=[byteOf (x/16777216),byteOf (x/65536),byteOf (x/256),byteOf x]
def dv(l:List (List UInt8)):List (List T):=l.map fun s=>[S s]
theorem iJ(l:List (List UInt8)):(dv l).length=l.length:=by simp[dv]
theorem me(l:List (List UInt8))(i:Nat)(h:i<(dv l).length):(dv l)[i]=[S (l[i]'(by simpa [dv] using h))]:=by simp[dv]
theorem kF(a b:List (List UInt8)):dv a++dv b=dv (a++b):=by simp[dv]
theorem nV:dv []=[]:=rfl
theorem mP(l:List (List UInt8))(n:Nat):(dv l).take n=dv (l.take n):=by simp[dv]
theorem mQ(l:List (List UInt8)):(dv l).all (fun r=>r.all T.scalar)=true:=by
 simp only[dv,List.all_map,au];intro n _;rfl
attribute [simp] iJ me kF nV mP mQ
def rX(k:Nat):List UInt8:=109::eB k []
def marks(k:Nat):Nat→List (List UInt8)
 |0=>[]
 |n+1=>marks k n++[rX (k+n)]
theorem m0(k n:Nat):(marks k n).length=n:=by
 induction n with
 |zero=>rfl
 |succ n ih=>simp[marks,ih]
attribute [simp] m0
end Mx
namespace Mx
open Go
attribute [-simp] bH step ec dh gj gI bS
variable {M:Nat→Option Body}
theorem lF(l:List UInt8):(Lib.splitB (bs [44]) 0 (Lib.countB (bs l) (bs [44])) (bs l)).map (fun x=>[T.str x])=dv (pieces l):=by
 have h:=Lib.splitB_data (bs [44]) 0 (Lib.countB (bs l) (bs [44])) (bs l);have e:Lib.countB (bs l) (bs [44])=Lib.count l [44]:=rfl;have e2:Lib.splitK [44] 0 (Lib.count l [44]) l=pieces l:=mS l;rw[e] at h ⊢;have e3:(Lib.splitB (bs [44]) 0 (Lib.count l [44]) (bs l)).map (·.data.toList)=pieces l:=h.trans e2;rw[←e3];simp only[dv,List.map_map];refine List.map_congr_left fun x _=> ?_
 rfl
theorem mR(h:M 538=some (.ext fM))(l:List UInt8)(hl:l.length<4294967281):run M 538 [.c (S l),.c (S [44])] []=some (.c (.sl true 1 (dv (pieces l))),[]):=by
 refine mf h ?_;have e:(bs l).size<4294967281∧1≤(bs [44]).size:=by simp;omega
 simp only[fM,e];rw[lF];rfl
theorem nq(h:M 130=some (.ext k7))(l:List UInt8)(hl:l.length<4294967281):run M 130 [.c (S l),.c (S [58])] []=some (.fW [.c (S (cr l).1),.c (S (cr l).2.1),.c (.bool (cr l).2.2)],[]):=by
 refine mf h ?_;have e:(bs l).size<4294967281:=by simpa using hl
 simp only[k7,e,if_true];rw[←qg];rfl
theorem iC(d:UInt8):∀(l:List UInt8) (n:Nat),val (l++[d]) n=10*val l n+(d.toNat-48)
 |[],n=>rfl
 |c::l,n=>by rw[List.cons_append,val,iC d l];rfl
theorem eu(b:UInt8):bo b=true↔(48:Int)≤b.toNat∧(b.toNat:Int)≤57:=by
 simp only[bo,ae,decide_eq_true_eq];have h1:((48:UInt8).toNat:Int)=48:=rfl;have h2:((57:UInt8).toNat:Int)=57:=rfl;rw[UInt8.le_iff_toNat_le,UInt8.le_iff_toNat_le];omega
theorem nN:∀(l:List UInt8) (k:Nat),l.length≤k→l.all bo=true→val l 0<10^k:=by
 have key:∀(l:List UInt8) (n:Nat),l.all bo=true→val l n<(n+1)*10^l.length:=by
  intro l
  induction l with
  |nil=>intro n _;simp[val]
  |cons d l ih=>
   intro n h;simp only[List.all_cons,ae] at h;have:=(eu d).1 h.1;have h2:=ih (10*n+(d.toNat-48)) h.2;rw[val,ak,Nat.pow_succ];have h3:10*n+(d.toNat-48)+1≤(n+1)*10:=by omega
   calc val l (10*n+(d.toNat-48))<(10*n+(d.toNat-48)+1)*10^l.length:=h2
    _≤((n+1)*10)*10^l.length:=aU _ h3
    _=(n+1)*(10^l.length*10):=by rw[Nat.mul_assoc,Nat.mul_comm 10]
 intro l k hl h;have:=key l 0 h;have h2:10^l.length≤10^k:=Nat.pow_le_pow_right (by omega) hl;omega
def hQ(s:List UInt8)(i:Nat)(x:Nat):St:={t:=[(0,.c (S s)),(4,.c (I (val (s.take i) 0))),(5,.c (I i))],o:=[],n:=x}
def nR(s:List UInt8)(i:Nat)(x:Nat):St:={t:=[(0,.c (S s)),(4,.c (I (val (s.take i) 0))),(5,.c (I i)),(15,.c (.bool false))],o:=[],n:=x}
def sd(s:List UInt8)(r:Out×St):Prop:=(∃i x,r=(.exit 0,nR s i x)∧i=min s.length 5∧(s.take i).all bo=true)∨(∃i x,∃h:i<s.length,r=(.ret,{t:=[(2,.c (I 0)),(3,.c (.bool false))],o:=[],n:=x})∧bo s[i]=false)
theorem pC(cf:ay)(k:Nat)(s:List UInt8)(hl:s.length≤1048576)(p:Nat×Nat)(hp:p.1≤min s.length 5∧(s.take p.1).all bo=true):
  (∃p':Nat×Nat,bH cf k an.l0 (hQ s p.1 p.2)=some (.normal,hQ s p'.1 p'.2)∧(p'.1≤min s.length 5∧(s.take p'.1).all bo=true)∧5-p'.1<5-p.1)∨
   (∃r,bH cf k an.l0 (hQ s p.1 p.2)=some r∧r.1≠.normal∧sd s r):=by
 obtain⟨i,x⟩:=p;obtain⟨h1,h2⟩:=hp;simp only at h1 h2 ⊢;by_cases c0:i<s.length∧i<5
 ·obtain⟨c1,c2⟩:=c0;have c3:(i:Int)<s.length:=by omega
  have c4:(i:Int)<5:=by omega
  obtain⟨b,hb⟩:∃b,b=s[i]:=⟨_,rfl⟩
  have hget:∀hh:i<s.length,s[i]'hh=b:=fun _=>hb.symm
  cases hd:bo b with
  |true=>
   left;obtain⟨d1,d2⟩:=(eu b).1 hd;have e1:=cZ (i:=i) (by omega);have hv:val (s.take i) 0<10^5:=nN _ 5 (by rw[cT];omega) h2;have ht:s.take (i+1)=s.take i++[b]:=by rw[List.take_succ_eq_append_getElem c1,←hb]
   suffices hh:∃x',bH cf k an.l0 (hQ s i x)=some (.normal,hQ s (i+1) x') by
    obtain⟨x',hh⟩:=hh;exact⟨(i+1,x'),hh,⟨by simp only;omega,by simp only;rw[ht,List.all_append,h2];simp[hd]⟩,by simp only;omega⟩
   obtain⟨z,hz⟩:∃z:Nat,z=b.toNat:=⟨_,rfl⟩
   have hz2:(b.toNat:Int)=z:=by omega
   have e6:((val (s.take (i+1)) 0:Nat):Int)=10*(val (s.take i) 0:Int)+((z:Int)-48):=by
    rw[ht,iC];omega
   simp only[hQ,e6];generalize val (s.take i) 0=n at*;have e2:IntKind.i64.wrap (10*(n:Int))=10*(n:Int):=wrap_i64 (by omega) (by omega);have e3:IntKind.u8.wrap ((z:Int)-48)=(z:Int)-48:=by
    unfold IntKind.wrap;simp[IntKind.bits,IntKind.signed];omega
   have e4:IntKind.i64.wrap ((z:Int)-48)=(z:Int)-48:=wrap_i64 (by omega) (by omega);have e5:IntKind.i64.wrap (10*(n:Int)+((z:Int)-48))=10*(n:Int)+((z:Int)-48):=wrap_i64 (by omega) (by omega);have d3:¬(z:Int)<48:=by omega
   have d4:¬(57:Int)<z:=by omega
   simp (maxSteps:=9^9) [an.l0,ax,aa,setAt,aj,c1,c3,c2,c4,hget,hz2,d3,d4,e1,e2,e3,e4,e5]
  |false=>
   right;have hor:(b.toNat:Int)<48∨(¬(b.toNat:Int)<48∧(57:Int)<b.toNat):=by
    by_cases q:(b.toNat:Int)<48
    ·exact .inl q
    ·right;refine⟨q, ?_⟩;by_cases q2:(57:Int)<b.toNat
     ·exact q2
     ·have:=(eu b).2 ⟨by omega,by omega⟩;rw[this] at hd;cases hd
   suffices hh:∃x',bH cf k an.l0 (hQ s i x)=some (.ret,{t:=[(2,.c (I 0)),(3,.c (.bool false))],o:=[],n:=x'}) by
    obtain⟨x',hh⟩:=hh;exact⟨_,hh,by simp,.inr ⟨i,x',c1,rfl,by rw[←hb];exact hd⟩⟩
   simp only[hQ];rcases hor with q|⟨q,q2⟩
   ·simp (maxSteps:=9^9) [an.l0,ax,aa,setAt,aj,c1,c3,c2,c4,hget,q]
   ·simp (maxSteps:=9^9) [an.l0,ax,aa,setAt,aj,c1,c3,c2,c4,hget,q,q2]
 ·right;have hi:i=min s.length 5:=by omega
  suffices hh:∃x',bH cf k an.l0 (hQ s i x)=some (.exit 0,nR s i x') by
   obtain⟨x',hh⟩:=hh;exact⟨_,hh,by simp,.inl ⟨i,x',rfl,hi,h2⟩⟩
  simp only[hQ,nR];by_cases c1:i<s.length
  ·have c3:(i:Int)<s.length:=by omega
   have c4:¬(i:Int)<5:=by omega
   have c5:¬i<5:=by omega
   simp (maxSteps:=9^9) [an.l0,ax,aa,setAt,aj,c1,c3,c4,c5]
  ·have c3:¬(i:Int)<s.length:=by omega
   simp (maxSteps:=9^9) [an.l0,ax,aa,setAt,aj,c1,c3]
theorem an.bg(h:an.k M)(s:List UInt8)(hl:s.length≤1048576):
  ∃v:Int,run M 539 [.c (S s)] []=some (.fW [.c (I v),.c (.bool (bA s).2)],[])∧((bA s).2=true→v=(bA s).1):=by
 obtain⟨h0,kw⟩:=h;have hw:=br.bg kw s.length 1 4;have e0:((0:Nat):Int)=0:=rfl;by_cases c:s=[42]
 ·subst c;refine⟨0,aP (b:=an.m) h0 ⟨0, ?_⟩,fun _=>rfl⟩;have e:(bA [42]).2=true:=rfl;rw[e];simp (maxSteps:=9^9) [cX,an.m,an.b,ax,aa,setAt,aj]
 obtain⟨r,hr,hp⟩:=eQ (f:=bH (run M) 6 an.l0) (fun p:Nat×Nat=>hQ s p.1 p.2) (fun p=>p.1≤min s.length 5∧(s.take p.1).all bo=true) (fun p=>5-p.1) (sd s)
  (fun p hp=>pC _ _ s hl p hp) 6 (0,2000096) ⟨by simp,by simp⟩ (by simp)
 have hne:cq .eql (bs s) {data:= #[42]}=some (.bool false):=by
  have:=jY s [42];rw[decide_eq_false c] at this;exact this
 simp only[hQ,nR,List.take_zero,val,e0] at hr;rcases hp with⟨i,x,rfl,hi,ha⟩|⟨i,x,hlt,rfl,hd⟩
 ·have hk:(bA s).2=(decide ((1:Int)≤s.length)&&decide ((s.length:Int)≤4)&&decide ((0:Int)<(val (s.take i) 0:Nat)))∧((bA s).2=true→((val (s.take i) 0:Nat):Int)=(bA s).1):=by
   unfold bA;rw[if_neg c];by_cases c4:s.length≤4
   ·have hs:s.take i=s:=aa (by omega);rw[hs] at ha ⊢;by_cases c5:s≠[]∧0<val s 0
    ·rw[if_pos ⟨c4,ha,c5.1,c5.2⟩];have:1≤s.length:=by cases s with|nil=>exact(c5.1 rfl).elim|cons=>simp
     refine⟨?_,fun _=>rfl⟩;rw[decide_eq_true (by omega),decide_eq_true (by omega),decide_eq_true (by omega)];rfl
    ·rw[if_neg (fun z=>c5 ⟨z.2.2.1,z.2.2.2⟩)];refine⟨?_,fun z=>by cases z⟩;by_cases c6:s=[]
     ·subst c6;rfl
     ·have:¬0<val s 0:=fun z=>c5 ⟨c6,z⟩
      rw[decide_eq_false (p:=(0:Int)<(val s 0:Nat)) (by omega),Bool.and_false]
   ·rw[if_neg (fun z=>c4 z.1)];refine⟨?_,fun z=>by cases z⟩;rw[decide_eq_false (p:=(s.length:Int)≤4) (by omega)];simp
  refine⟨(val (s.take i) 0:Nat),aP (b:=an.m) h0 ⟨6, ?_⟩,hk.2⟩;rw[hk.1];simp only[nR] at hr;generalize val (s.take i) 0=n at*;generalize (decide ((1:Int)≤s.length)&&decide ((s.length:Int)≤4))=wb at*;cases wb with
  |true=>
   simp only[Bool.true_and];simp (maxSteps:=9^9) [cX,an.m,an.b,ax,aa,setAt,aj,hr,hw,hne]
  |false=>
   simp only[Bool.false_and];simp (maxSteps:=9^9) [cX,an.m,an.b,ax,aa,setAt,aj,hr,hw,hne]
 ·have hk:(bA s).2=false:=by
   unfold bA;rw[if_neg c,if_neg (fun z=>by
    have:=List.all_eq_true.1 z.2.1 _ (bG hlt);rw[hd] at this;cases this)]
  refine⟨0,aP (b:=an.m) h0 ⟨6, ?_⟩,fun z=>by rw[hk] at z;cases z⟩;rw[hk];simp (maxSteps:=9^9) [cX,an.m,an.b,ax,aa,setAt,aj,hr,hne]
end Mx
namespace Mx
open Go
abbrev sP(l:List Int):Prop:=l.Pairwise (·<·)
end Mx
namespace Mx
open Go
variable {M:Nat→Option Body}
structure rD where
 val:Int
 time:Int
 si:Int
structure ln where
 gid:Int
 uid:Int
 flags:List rD
 text:List UInt8
structure qX where
 gid:Int
 name:List UInt8
 time:Int
 si:Int
 next:Int
 fg:List ln
 gone:List Int
abbrev rz(r:rD):List T:=[I r.val,I r.time,I r.si]
abbrev sw(l:List rD):T:= .sl false 3 (l.map rz)
abbrev qd(m:ln):List T:=[I m.gid,I m.uid,sw m.flags,S m.text]
abbrev fg(l:List ln):T:= .sl false 4 (l.map qd)
theorem pX{k:IntKind}{u:T}(h:Has (.int k) u):∃n,u= .int k n:=by cases h;exact⟨_,rfl⟩
def sK(l:List ln)(g:Int):Nat→Nat→Option Nat
 |0,_=>none
 |d+1,i=>if h:i<l.length then(if l[i].gid=g then some i else sK l g d (i+1)) else none
def rY(l:List ln)(g:Int):Option Nat:=sK l g l.length 0
def sy:Option Nat→Int
 |some i=>i
 |none=> -1
def holds(b:qX)(g:Int):Bool:=decide (0≤sy (rY b.fg g))
end Mx
namespace Mx
open Go
def oz(p:Nat→Bool):Nat→Nat→Option Nat
 |0,_=>none
 |d+1,i=>if p i=true then some i else oz p d (i+1)
def oy(p:Nat→Bool)(n:Nat):Option Nat:=oz p n 0
theorem oe{f:St→Option (Out×St)}{n m:Nat}{s:St}{r:Out×St}(h:ca f n s=some r)(hm:n≤m):ca f m s=some r:=eR (fun _ _ h=>h) hm h
def texts{α:Type}(t:α→List UInt8)(l:List α):List UInt8:=l.flatMap t
end Mx
namespace Mx
open Go
variable {M:Nat→Option Body}
def rM(a n b:Int):Bool:=decide (a≤n)&&decide (n≤b)
def mc(t w:Int):Bool:=rM 0 t 100000&&rM 0 w 2
def rU(r:rD):Bool:=mc r.time r.si&&rM 0 r.val 1000000000
def ql(l:List rD)(i:Nat):Bool:=match l[i]? with
 |some r=> !rU r||decide (1<r.val)
 |none=>false
def p6(l:List rD):Bool:=(oy (ql l) l.length).isNone&&decide (l.length=3)
def rj(m:ln):Bool:=rM 1 m.gid 9999&&rM 1 m.uid 9999&&p6 m.flags&&decide (m.text.length≤60)
def qk(l:List UInt8)(i:Nat):Bool:=match l[i]? with
 |some b=>(decide ((b.toNat:Int)<97)||decide (122<(b.toNat:Int)))&&(decide ((b.toNat:Int)<48)||decide (57<(b.toNat:Int)))
 |none=>false
def ri(l:List UInt8):Bool:=(oy (qk l) l.length).isNone&&rM 1 l.length 12
theorem fj(s:List Int):(cF s).length=s.length:=by simp[cF]
structure GX where
 w:Nat
 v8:Nat
 v1:Nat
 v2:Nat
 r8:List (List T)
 r1:List (List T)
 n:Nat
theorem GX.of{p:GX→Prop}(w r8 r1)(h:∃v8 v1 v2 n,p ⟨w,v8,v1,v2,r8,r1,n⟩):∃x,p x:=by
 obtain⟨v8,v1,v2,n,h⟩:=h;exact⟨_,h⟩
def named(l:List qX)(s:List UInt8):Option Nat:=l.findIdx? fun b=>decide (b.name=s)
structure qW (b:qX):Prop where
 m:b.fg.length≤1048576
 g:b.gone.length≤1048576
 n:b.name.length≤1048576
 f:∀m∈b.fg,m.flags.length≤1048576
theorem qW.ok{b:qX}(h:qW b):b.fg.length≤1048576∧b.gone.length≤4611686018427387904∧b.name.length≤4611686018427387904∧∀m∈b.fg,m.flags.length≤1048576:=⟨h.m,by have:=h.g;omega,by have:=h.n;omega,h.f⟩
structure sf where
 a:Nat
 b:Nat
 c:Nat
 d:Nat
theorem sf.ex{p:sf→Prop}:(∃x,p x)↔∃a b c d,p ⟨a,b,c,d⟩:=⟨fun⟨⟨a,b,c,d⟩,h⟩=>⟨a,b,c,d,h⟩,fun⟨a,b,c,d,h⟩=>⟨⟨a,b,c,d⟩,h⟩⟩
theorem dq{β γ:Type}(n:Nat){f:St→Option (Out×St)}(S:Nat→β→St)(e:Nat)(E:γ→St)
  (h1:∀i,i<n→∀x,∃y,f (S i x)=some (.normal,S (i+1) y)) (h3:∀x,∃y,f (S n x)=some (.exit e,E y)):
  ∃g:β→γ,∀x,ca f (n+1) (S 0 x)=some (.exit e,E (g x)):=by
 refine fh (f:=f) S (fun i=>i≤n) (fun i=>n-i) (fun _=>()) (fun _ m=>(.exit e,E m)) ?_ (n+1) 0 (Nat.zero_le _) (by omega);intro i x hi;by_cases hlt:i<n
 ·left;obtain⟨y,hy⟩:=h1 i hlt x;exact⟨i+1,y,hy,hlt,by omega,rfl⟩
 ·have:i=n:=by omega
  subst this;right;obtain⟨y,hy⟩:=h3 x;exact⟨y,by simp[hy],by simp⟩
end Mx
namespace Mx
open Go
attribute [-simp] bH step ec dh gj gI bS
variable {M:Nat→Option Body}
theorem jC:∀l:List UInt8,(∀p∈pieces l,p.length≤l.length)∧(pieces l).length≤l.length+1
 |[]=>by simp[pieces]
 |b::l=>by
  obtain⟨h1,h2⟩:=jC l;by_cases c:b=44
  ·simp only[pieces,c,if_true,ak];refine⟨fun p hp=> ?_,by omega⟩;rcases List.mem_cons.1 hp with rfl|hp
   ·simp
   ·have:=h1 p hp;omega
  ·simp only[pieces,if_neg c];cases q:pieces l with
   |nil=>exact(mY l q).elim
   |cons p ps=>
    rw[q] at h1 h2;simp only[ak] at h2 ⊢;refine⟨fun x hx=> ?_,by omega⟩;rcases List.mem_cons.1 hx with rfl|hx
    ·have:=h1 p (a8 ..);simp only[ak];omega
    ·have:=h1 x (aV _ hx);omega
theorem qi(p:List UInt8):(cr p).1.length≤p.length∧(fe p).length≤p.length:=by
 by_cases hc:(58:UInt8)∈p
 ·obtain⟨e,_,e2⟩:=kk hc;have:=congrArg List.length e;simp only[a_,ak] at this;refine⟨by omega, ?_⟩;unfold fe;rw[if_pos e2];omega
 ·have e:cr p=(p,[],false):=by unfold cr;rw[if_neg hc]
  unfold fe;rw[e];simp
structure sq where
 i:Nat
 acc:List Range
 v:Nat
 n:Nat
def lu(ps:List (List UInt8))(s:sq):St:={t:=[(4,.c (.row 14 s.v 0 s.acc.length)),(16,.c (.sl false 1 (dv ps))),(17,.c (I ps.length)),(18,.c (I s.i))],o:=[(14,⟨s.v,2,true,false,s.acc.map b8⟩)],n:=s.n}
def sk(ps:List (List UInt8))(s:sq):St:={t:=[(4,.c (.row 14 s.v 0 s.acc.length)),(16,.c (.sl false 1 (dv ps))),(17,.c (I ps.length)),(18,.c (I s.i)),(19,.c (.bool false))],o:=[(14,⟨s.v,2,true,false,s.acc.map b8⟩)],n:=s.n}
def mT(v n w:Nat)(ra:List (List T)):St:={t:=[(2,.c (.row 52 w 0 0)),(3,.c (.bool false))],o:=[(14,⟨v,2,true,false,ra⟩),(52,⟨w,2,true,false,[]⟩)],n:=n}
structure sF (ps:List (List UInt8)) (q:List Range×Bool) (s:sq):Prop where
 i:s.i≤ps.length
 acc:s.acc.length≤8
 q:c7 (ps.drop s.i) s.acc=q
def sE(ps:List (List UInt8))(q:List Range×Bool)(r:Out×St):Prop:=(∃s,r=(.exit 0,sk ps s)∧q=(s.acc,true)∧s.acc.length≤8)∨(∃v n w ra,r=(.ret,mT v n w ra)∧q=([],false))
theorem pF(kc:M 130=some (.ext k7))(ks:an.k M)(k:Nat)(ps:List (List UInt8))(hps:∀p∈ps,p.length≤1048576)(hpl:ps.length≤4294967295)(q:List Range×Bool)(s:sq)(hs:sF ps q s):
  (∃s',bH (run M) k ao.l0 (lu ps s)=some (.normal,lu ps s')∧sF ps q s'∧ps.length-s'.i<ps.length-s.i)∨
   (∃r,bH (run M) k ao.l0 (lu ps s)=some r∧r.1≠.normal∧sE ps q r):=by
 obtain⟨i,acc,v,n⟩:=s;obtain⟨h1,h2,hq⟩:=hs;simp only at h1 h2 hq;have hsl:(dv ps).length=ps.length:=iJ ps;by_cases c0:i<ps.length;rotate_left
 ·right;have:i=ps.length:=by omega
  subst this;rw[List.drop_length,c7] at hq;suffices hh:∃n',bH (run M) k ao.l0 (lu ps ⟨ps.length,acc,v,n⟩)=some (.exit 0,sk ps ⟨ps.length,acc,v,n'⟩) by
   obtain⟨n',hh⟩:=hh;exact⟨_,hh,by simp,.inl ⟨_,rfl,hq.symm,h2⟩⟩
  simp only[lu,sk];generalize acc.map b8=ra at*;simp (maxSteps:=9^9) [ao.l0,ax,aa,setAt,aj,hsl]
 have c1:(i:Int)<ps.length:=by omega
 have e1:=cZ (i:=i) (by omega);rw[bM c0,c7] at hq;have hple:=hps _ (bG c0);have ha:∀hh:i<(dv ps).length,(dv ps)[i]'hh=[S ps[i]]:=fun hh=>me ps i hh
 generalize ps[i]=p at*;have g1:=nq kc p (by omega);have hcl:=qi p;obtain⟨a,g2,g3⟩:=an.bg ks (cr p).1 (by omega);obtain⟨b,g4,g5⟩:=an.bg ks (fe p) (by omega);have hsec:fe p=if(cr p).2.2=true then(cr p).2.1 else(cr p).1:=rfl
 unfold du at hq;rw[hsec] at g4 g5 hq;generalize cr p=ct at*;obtain⟨f,t,two⟩:=ct;simp only at g1 g2 g3 g4 g5 hq;have er:(acc.map b8).length=acc.length:=by simp
 have et:(acc.map b8).take acc.length=acc.map b8:=aa (by omega);generalize hsa:bA f=sa at*;obtain⟨sa,oa⟩:=sa;generalize hsb:bA (if two=true then t else f)=sb at*;obtain⟨sb,ob⟩:=sb;simp only at g2 g3 g4 g5 hq;have bad:q=([],false)→(∃v' n' w ra,bH (run M) k ao.l0 (lu ps ⟨i,acc,v,n⟩)=some (.ret,mT v' n' w ra))→(∃r,bH (run M) k ao.l0 (lu ps ⟨i,acc,v,n⟩)=some r∧r.1≠.normal∧sE ps q r):=by
  rintro e ⟨v',n',w,ra,hh⟩;exact⟨_,hh,by simp,.inr ⟨_,_,_,_,rfl,e⟩⟩
 cases oa with
 |false=>
  right;rw[if_neg (by simp)] at hq;refine bad hq.symm ?_;simp only[lu,mT];refine⟨v, ?_⟩;generalize acc.map b8=ra at*;cases two with
  |true=>simp only[if_true] at g4;simp (maxSteps:=9^9) [ao.l0,ax,aa,setAt,aj,hsl,ha,c0,c1,g1,g2,g4]
  |false=>simp only[av,if_false] at g4;simp (maxSteps:=9^9) [ao.l0,ax,aa,setAt,aj,hsl,ha,c0,c1,g1,g2,g4]
 |true=>
  have ga:=g3 rfl;subst ga;cases ob with
  |false=>
   right;rw[if_neg (by simp)] at hq;refine bad hq.symm ?_;simp only[lu,mT];refine⟨v, ?_⟩;generalize acc.map b8=ra at*;cases two with
   |true=>simp only[if_true] at g4;simp (maxSteps:=9^9) [ao.l0,ax,aa,setAt,aj,hsl,ha,c0,c1,g1,g2,g4]
   |false=>simp only[av,if_false] at g4;rw[g2] at g4;cases g4
  |true=>
   have gb:=g5 rfl;subst gb;rw[if_pos ⟨rfl,rfl⟩] at hq;simp only at hq;by_cases c8:acc.length=8
   ·right;rw[if_pos c8] at hq;refine bad hq.symm ?_;have c9:(acc.length:Int)=8:=by omega
    simp only[lu,mT];refine⟨v, ?_⟩;generalize acc.map b8=ra at*;cases two with
    |true=>simp only[if_true] at g4;simp (maxSteps:=9^9) [ao.l0,ax,aa,setAt,aj,hsl,ha,c0,c1,g1,g2,g4,c9]
    |false=>simp only[av,if_false] at g4;simp (maxSteps:=9^9) [ao.l0,ax,aa,setAt,aj,hsl,ha,c0,c1,g1,g2,g4,c9]
   ·left;rw[if_neg c8] at hq;have c9:¬(acc.length:Int)=8:=by omega
    have e5:acc.length+1≤4294967296:=by omega
    suffices hh:∃v' n',bH (run M) k ao.l0 (lu ps ⟨i,acc,v,n⟩)=some (.normal,lu ps ⟨i+1,acc++[⟨(sa:Int),(sb:Int)⟩],v',n'⟩) by
     obtain⟨v',n',hh⟩:=hh;exact⟨_,hh,⟨c0,by simp;omega,hq⟩,by simp only;omega⟩
    simp only[lu,dD,aY,bX,a_,ak,bd]
    try simp only[b8]
    generalize acc.map b8=ra at*;cases two with
    |true=>simp only[if_true] at g4;simp (maxSteps:=9^9) [ao.l0,ax,aa,setAt,aj,hsl,ha,c0,c1,g1,g2,g4,c9,e1,e5,er,et]
    |false=>
     have hab:sa=sb:=by
      rw[if_neg (by simp),hsa] at hsb;exact(Prod.mk.inj hsb).1
     subst hab;simp (maxSteps:=9^9) [ao.l0,ax,aa,setAt,aj,hsl,ha,c0,c1,g1,g2,c9,e1,e5,er,et]
theorem ao.bg(h:ao.k M)(l:List UInt8)(hl:l.length≤1048576):
  run M 530 [.c (S l)] []=some (.fW [.c (.sl true 2 ((cJ l).1.map b8)),.c (.bool (cJ l).2)],[]):=by
 obtain⟨h0,kc,ksp,ks⟩:=h;have h1:=mR ksp l (by omega);obtain⟨p1,p2⟩:=jC l;unfold cJ;generalize pieces l=ps at*;obtain⟨r,hr,hp⟩:=eQ (f:=bH (run M) (ps.length+1) ao.l0) (lu ps) (sF ps (c7 ps [])) (fun s=>ps.length-s.i) (sE ps (c7 ps []))
  (fun s hs=>pF kc ks _ ps (fun p hp=>by have:=p1 p hp;omega) (by omega) _ s hs) (ps.length+1) ⟨0,[],2000032,2000128⟩ ⟨Nat.zero_le _,by simp,rfl⟩ (by simp only;omega)
 refine aP (b:=ao.m) h0 ⟨ps.length+1, ?_⟩;have e0:((0:Nat):Int)=0:=rfl;have hsl:(dv ps).length=ps.length:=iJ ps;rcases hp with⟨⟨i,acc,v,n⟩,rfl,hq,h8⟩|⟨v,n,w,ra,rfl,hq⟩
 ·rw[hq];simp only at h8;have er:(acc.map b8).length=acc.length:=by simp
  have et:(acc.map b8).take acc.length=acc.map b8:=aa (by omega);simp only[lu,sk,bX,bd,e0] at hr ⊢;generalize acc.map b8=rt at*;simp (maxSteps:=9^9) [cX,ao.m,ao.b,ax,aa,setAt,aj,h1,hr,hsl,er,et]
 ·rw[hq];simp only[lu,mT,bX,bd,e0] at hr ⊢;simp (maxSteps:=9^9) [cX,ao.m,ao.b,ax,aa,setAt,aj,h1,hr,hsl]
def ds(r:List UInt8):List UInt8:=(r.takeWhile bo).take 4
theorem lU(r:List UInt8):(ds r).length≤4∧(ds r).length≤r.length:=by
 have:=(List.takeWhile_sublist (l:=r) bo).length_le;unfold ds;rw[cT];omega
theorem oN(r:List UInt8):(ds r).all bo=true:=by
 rw[au];intro b hb;have h2:=List.all_takeWhile (p:=bo) (l:=r);rw[au] at h2;exact h2 b (List.mem_of_mem_take hb)
theorem oM(r:List UInt8):ds r<+:r:=(List.take_prefix _ _).trans (List.takeWhile_prefix _)
theorem r7{r:List UInt8}{j:Nat}(hj:j<(ds r).length):∃h:j<r.length,(ds r)[j]=r[j]∧bo r[j]=true:=by
 have h:=(lU r).2;refine⟨by omega,(oM r).getElem hj, ?_⟩;have h2:=oN r;rw[au] at h2;have:=h2 _ (bG hj)
 rwa [(oM r).getElem hj] at this
theorem qe:∀(r:List UInt8),(ds r).length<4→∀h:(ds r).length<r.length,bo r[(ds r).length]=false:=by
 have key:∀(r:List UInt8) (h:(r.takeWhile bo).length<r.length),bo r[(r.takeWhile bo).length]=false:=by
  intro r
  induction r with
  |nil=>intro h;simp at h
  |cons b r ih=>
   intro h;have hh:((b::r)[((b::r).takeWhile bo).length]?).map bo=some false:=by
    cases q:bo b with
    |false=>simp[q]
    |true=>
     have e:(b::r).takeWhile bo=b::r.takeWhile bo:=by simp[q]
     rw[e] at h ⊢;simp only[ak] at h ⊢;have h':(r.takeWhile bo).length<r.length:=by omega
     rw[List.getElem?_cons_succ,cg h'];simp[ih h']
   rw[cg h] at hh;simpa using hh
 intro r h4 h;have e:ds r=r.takeWhile bo:=by
  unfold ds at h4 ⊢;rw[cT] at h4;exact aa (by omega)
 have h2:(r.takeWhile bo).length<r.length:=by rw[←e];exact h
 have:=key r h2;have e2:(ds r).length=(r.takeWhile bo).length:=by rw[e]
 simpa [e2] using this
def m9(l:List UInt8)(a:Nat)(j:Nat)(x:Nat):St:={t:=[(0,.c (S l)),(1,.c (I a)),(7,.c (I (val ((ds (l.drop a)).take j) 0))),(8,.c (I (a+j:Nat)))],o:=[],n:=x}
def oi(l:List UInt8)(a:Nat)(x:Nat):St:={t:=[(0,.c (S l)),(1,.c (I a)),(7,.c (I (val (ds (l.drop a)) 0))),(8,.c (I (a+(ds (l.drop a)).length:Nat))),(43,.c (.bool false))],o:=[],n:=x}
theorem oh(cf:ay)(k:Nat)(l:List UInt8)(hl:l.length≤1048576)(a:Nat)(ha:a≤l.length):
  ∃g:Nat→Nat,∀x,ca (bH cf k ai.l0) ((ds (l.drop a)).length+1) (m9 l a 0 x)=some (.exit 0,oi l a (g x)):=by
 have hd:=lU (l.drop a);rw[List.length_drop] at hd;have e4:IntKind.i64.wrap ((a:Int)+4)=(a:Int)+4:=wrap_i64 (by omega) (by omega);refine dq (f:=bH cf k ai.l0) (ds (l.drop a)).length (m9 l a) 0 (oi l a) (fun j hj x=> ?_) (fun x=> ?_)
 ·obtain⟨h1,h2,h3⟩:=r7 hj;rw[List.length_drop] at h1;have h1':a+j<l.length:=by omega
  have hg:(l.drop a)[j]'(by rw[List.length_drop];omega)=l[a+j]:=by rw[List.getElem_drop]
  have hv:val ((ds (l.drop a)).take j) 0<10^5:=nN _ 5 (by rw[cT];omega) (by
   rw[au];intro b hb;have:=oN (l.drop a);rw[au] at this;exact this b (List.mem_of_mem_take hb))
  obtain⟨b,hb⟩:∃b,b=l[a+j]:=⟨_,rfl⟩
  have hget:∀hh:a+j<l.length,l[a+j]'hh=b:=fun _=>hb.symm
  have hdig:bo b=true:=by rw[hb,←hg];exact h3
  obtain⟨d1,d2⟩:=(eu b).1 hdig;have ht:(ds (l.drop a)).take (j+1)=(ds (l.drop a)).take j++[b]:=by
   rw[List.take_succ_eq_append_getElem hj,h2,hg,←hb]
  obtain⟨z,hz⟩:∃z:Nat,z=b.toNat:=⟨_,rfl⟩
  have hz2:(b.toNat:Int)=z:=by omega
  rw[hz2] at d1 d2;have e6:((val ((ds (l.drop a)).take (j+1)) 0:Nat):Int)=10*(val ((ds (l.drop a)).take j) 0:Int)+(z:Int)-48:=by
   rw[ht,iC];omega
  have e7:((a+(j+1):Nat):Int)=((a+j:Nat):Int)+1:=by omega
  simp only[m9,eY,e6,e7];have hj4:j<4:=by omega
  generalize val ((ds (l.drop a)).take j) 0=n at*;have k4:((a+j:Nat):Int)<(a:Int)+4:=by omega
  have k1:((a+j:Nat):Int)<l.length:=by omega
  generalize hm:a+j=m at*;have e1:=cZ (i:=m) (by omega);have e2:IntKind.i64.wrap (10*(n:Int))=10*(n:Int):=wrap_i64 (by omega) (by omega);have e3:IntKind.i64.wrap (z:Int)=(z:Int):=wrap_i64 (by omega) (by omega);have e5:IntKind.i64.wrap (10*(n:Int)+(z:Int))=10*(n:Int)+(z:Int):=wrap_i64 (by omega) (by omega);have e8:IntKind.i64.wrap (10*(n:Int)+(z:Int)-48)=10*(n:Int)+(z:Int)-48:=wrap_i64 (by omega) (by omega);simp (maxSteps:=9^9) [ai.l0,ax,aa,setAt,aj,h1',k1,k4,hget,hz2,d1,d2,e1,e2,e3,e4,e5,e8]
 ·simp only[m9,oi,List.take_length];have hst:=qe (l.drop a);generalize val (ds (l.drop a)) 0=n at*;generalize hj:(ds (l.drop a)).length=j at*;by_cases c1:a+j<l.length
  ·have k1:((a+j:Nat):Int)<l.length:=by omega
   by_cases c4:j<4
   ·have hd:=hst c4 (by rw[List.length_drop];omega);rw[List.getElem_drop] at hd;obtain⟨b,hb⟩:∃b,b=l[a+j]:=⟨_,rfl⟩
    have hget:∀hh:a+j<l.length,l[a+j]'hh=b:=fun _=>hb.symm
    rw[←hb] at hd;generalize hm:a+j=m at*;by_cases q:(48:Int)≤b.toNat
    ·have q2:¬(b.toNat:Int)≤57:=fun z=>by
      have:=(eu b).2 ⟨q,z⟩;rw[this] at hd;cases hd
     simp (maxSteps:=9^9) [ai.l0,ax,aa,setAt,aj,c1,k1,hget,q,q2,e4]
    ·simp (maxSteps:=9^9) [ai.l0,ax,aa,setAt,aj,c1,k1,hget,q,e4]
   ·have j4:j=4:=by omega
    have k4:¬((a+j:Nat):Int)<(a:Int)+4:=by omega
    obtain⟨b,hb⟩:∃b,b=l[a+j]:=⟨_,rfl⟩
    have hget:∀hh:a+j<l.length,l[a+j]'hh=b:=fun _=>hb.symm
    generalize hm:a+j=m at*;by_cases q:(48:Int)≤b.toNat
    ·by_cases q2:(b.toNat:Int)≤57
     ·simp (maxSteps:=9^9) [ai.l0,ax,aa,setAt,aj,c1,k1,hget,q,q2,e4,k4]
     ·simp (maxSteps:=9^9) [ai.l0,ax,aa,setAt,aj,c1,k1,hget,q,q2,e4,k4]
    ·simp (maxSteps:=9^9) [ai.l0,ax,aa,setAt,aj,c1,k1,hget,q,e4,k4]
  ·have k1:¬((a+j:Nat):Int)<l.length:=by omega
   generalize hm:a+j=m at*;simp (maxSteps:=9^9) [ai.l0,ax,aa,setAt,aj,k1]
theorem ai.bg(h:ai.k M)(l:List UInt8)(hl:l.length≤1048576)(a:Nat)(ha:a≤l.length):
  (∀n r,dA (l.drop a)=some (n,r)→∃k:Nat,run M 326 [.c (S l),.c (I a)] []=some (.fW [.c (I n),.c (I k),.c (.bool true)],[])∧a<k∧k≤l.length∧r=l.drop k)∧
  (dA (l.drop a)=none→∃x y:Int,run M 326 [.c (S l),.c (I a)] []=some (.fW [.c (I x),.c (I y),.c (.bool false)],[])):=by
 obtain⟨g,hr⟩:=oh (run M) 6 l hl a ha;have hd:=lU (l.drop a);rw[List.length_drop] at hd;have e1:=cZ (i:=a) (by omega);have hloop:∀x,ca (bH (run M) 6 ai.l0) 6 (m9 l a 0 x)=some (.exit 0,oi l a (g x)):=fun x=>oe (hr x) (by omega)
 have e0:((0:Nat):Int)=0:=rfl;simp only[m9,oi,List.take_zero,val,Nat.add_zero,e0] at hloop;have eds:ds (l.drop a)=((l.drop a).takeWhile bo).take 4:=rfl;unfold dA;rw[←eds];have rest:(¬∃h:a<l.length,l[a]=42)→
   run M 326 [.c (S l),.c (I a)] []=some (.fW [.c (I (val (ds (l.drop a)) 0)),.c (I ((a+(ds (l.drop a)).length:Nat):Int)),.c (.bool (decide (ds (l.drop a)≠[]∧0<val (ds (l.drop a)) 0)))],[]):=by
  intro hn;refine aP (b:=ai.m) h ⟨6, ?_⟩;have hne:decide (ds (l.drop a)≠[]∧0<val (ds (l.drop a)) 0)=(decide ((a:Int)<((a+(ds (l.drop a)).length:Nat):Int))&&decide ((0:Int)<(val (ds (l.drop a)) 0:Nat))):=by
   cases hq:ds (l.drop a) with
   |nil=>simp
   |cons x y=>
    rw[decide_eq_true (p:=(a:Int)<_) (by simp only[ak];omega),Bool.true_and];by_cases z:0<val (x::y) 0
    ·rw[decide_eq_true ⟨by simp,z⟩,decide_eq_true (by omega)]
    ·rw[decide_eq_false (fun w=>z w.2),decide_eq_false (by omega)]
  rw[hne];generalize val (ds (l.drop a)) 0=n at*;generalize a+(ds (l.drop a)).length=m at*;by_cases c1:a<l.length
  ·have c2:(a:Int)<l.length:=by omega
   have c3:¬(l[a].toNat:Int)=42:=fun z=>hn ⟨c1,(kA _ 42).1 z⟩
   obtain⟨b,hb⟩:∃b,b=l[a]:=⟨_,rfl⟩
   have hget:∀hh:a<l.length,l[a]'hh=b:=fun _=>hb.symm
   rw[←hb] at c3;by_cases c4:(a:Int)<(m:Int)
   ·simp (maxSteps:=9^9) [cX,ai.m,ai.b,ax,aa,setAt,aj,hloop,c1,c2,hget,c3,c4]
   ·simp (maxSteps:=9^9) [cX,ai.m,ai.b,ax,aa,setAt,aj,hloop,c1,c2,hget,c3,c4]
  ·have c2:¬(a:Int)<l.length:=by omega
   by_cases c4:(a:Int)<(m:Int)
   ·simp (maxSteps:=9^9) [cX,ai.m,ai.b,ax,aa,setAt,aj,hloop,c2,c4]
   ·simp (maxSteps:=9^9) [cX,ai.m,ai.b,ax,aa,setAt,aj,hloop,c2,c4]
 by_cases hs:∃h:a<l.length,l[a]=42
 ·obtain⟨c1,c3⟩:=hs;have hh:(l.drop a).head? =some 42:=by rw[bM c1,c3];rfl
  rw[if_pos hh];refine⟨fun n r e=> ?_,fun e=>by cases e⟩;cases e;refine⟨a+1,aP (b:=ai.m) h ⟨0, ?_⟩,by omega,by omega,by rw[List.drop_drop]⟩;have c2:(a:Int)<l.length:=by omega
  have hget:∀hh:a<l.length,l[a]'hh=42:=fun _=>c3
  have e7:((a+1:Nat):Int)=(a:Int)+1:=by omega
  rw[e7];simp (maxSteps:=9^9) [cX,ai.m,ai.b,ax,aa,setAt,aj,c1,c2,hget,e1]
 ·have hh:¬(l.drop a).head? =some 42:=by
   by_cases c1:a<l.length
   ·rw[bM c1];intro e;simp only[List.head?_cons,af] at e;exact hs ⟨c1,e⟩
   ·rw[dS (by omega)];simp
  have h1:=rest hs;rw[if_neg hh];by_cases c:ds (l.drop a)≠[]∧0<val (ds (l.drop a)) 0
  ·rw[if_pos c];rw[decide_eq_true c] at h1;refine⟨fun n r e=> ?_,fun e=>by cases e⟩;cases e;have:0<(ds (l.drop a)).length:=by cases hq:ds (l.drop a) with|nil=>exact(c.1 hq).elim|cons=>simp
   exact⟨_,h1,by omega,by omega,by rw[List.drop_drop]⟩
  ·rw[if_neg c];rw[decide_eq_false c] at h1;exact⟨fun n r e=>(by cases e),fun _=>⟨_,_,h1⟩⟩
structure sr where
 d:Nat
 a:Nat
 acc:List Range
 w:Nat
 v:Nat
 n:Nat
def nr(s:sr):List (Nat×Ob):=[(14,⟨s.w,2,true,false,[]⟩),(15,⟨s.v,2,true,false,s.acc.map b8⟩)]
def iv(l:List UInt8)(s:sr):St:={t:=[(0,.c (S l)),(4,.c (.row 14 s.w 0 0)),(5,.c (.row 15 s.v 0 s.acc.length)),(6,.c (I s.a))],o:=nr s,n:=s.n}
def jM(acc:List Range)(w v n:Nat):St:={t:=[(2,.c (.row 15 v 0 acc.length)),(3,.c (.bool true))],o:=[(14,⟨w,2,true,false,[]⟩),(15,⟨v,2,true,false,acc.map b8⟩)],n:=n}
def kl(w v n:Nat)(ra:List (List T)):St:={t:=[(2,.c (.row 14 w 0 0)),(3,.c (.bool false))],o:=[(14,⟨w,2,true,false,[]⟩),(15,⟨v,2,true,false,ra⟩)],n:=n}
structure su (l:List UInt8) (q:List Range×Bool) (s:sr):Prop where
 a:s.a≤l.length
 d:l.length-s.a<s.d
 acc:s.acc.length≤8
 q:hH s.d (l.drop s.a) s.acc=q
def sG(q:List Range×Bool)(r:Out×St):Prop:=(∃acc w v n,r=(.ret,jM acc w v n)∧q=(acc,true)∧acc.length≤8)∨(∃w v n ra,r=(.ret,kl w v n ra)∧q=([],false))
theorem qj(kn:ai.k M)(k:Nat)(l:List UInt8)(hl:l.length≤1048576)(q:List Range×Bool)(s:sr)(hs:su l q s):
  (∃s',bH (run M) k al.l0 (iv l s)=some (.normal,iv l s')∧su l q s'∧s'.d<s.d)∨
   (∃r,bH (run M) k al.l0 (iv l s)=some r∧r.1≠.normal∧sG q r):=by
 obtain⟨d,a,acc,w,v,n⟩:=s;obtain⟨h1,h2,h3,hq⟩:=hs;simp only at h1 h2 h3 hq;cases d with
 |zero=>omega
 |succ d=>
 rw[hH] at hq;obtain⟨n1,n2⟩:=ai.bg kn l hl a h1;have er:(acc.map b8).length=acc.length:=by simp
 have et:(acc.map b8).take acc.length=acc.map b8:=aa (by omega);have e5:acc.length+1≤4294967296:=by omega
 have no:q=([],false)→(∃v' n' ra,bH (run M) k al.l0 (iv l ⟨d+1,a,acc,w,v,n⟩)=some (.ret,kl w v' n' ra))→(∃r,bH (run M) k al.l0 (iv l ⟨d+1,a,acc,w,v,n⟩)=some r∧r.1≠.normal∧sG q r):=by
  rintro e ⟨v',n',ra,hh⟩;exact⟨_,hh,by simp,.inr ⟨_,_,_,_,rfl,e⟩⟩
 unfold dp at hq;cases hn:dA (l.drop a) with
 |none=>
  right;rw[hn] at hq;obtain⟨x,y,g1⟩:=n2 hn;refine no hq.symm ?_;simp only[iv,nr,kl];refine⟨v, ?_⟩;generalize acc.map b8=ra at*;simp (maxSteps:=9^9) [al.l0,ax,aa,setAt,aj,g1]
 |some xr=>
  obtain⟨x,r1⟩:=xr;rw[hn] at hq;obtain⟨k1,g1,j1,j2,hr1⟩:=n1 x r1 hn;subst hr1;simp only at hq;have behind:∀(y:Range) (k2:Nat),k2≤l.length→a<k2→
    (if 8<acc.length+1 then([],false) else if l.drop k2=[] then(acc++[y],true) else if(l.drop k2).head? ≠some 44 then([],false) else hH d ((l.drop k2).drop 1) (acc++[y]))=q→
    (8<acc.length+1∧q=([],false))∨(¬8<acc.length+1∧k2=l.length∧q=(acc++[y],true))∨
     (¬8<acc.length+1∧∃h:k2<l.length,(¬l[k2]=44∧q=([],false))∨(l[k2]=44∧su l q ⟨d,k2+1,acc++[y],w,0,0⟩)):=by
   intro y k2 hk hak e;by_cases c8:8<acc.length+1
   ·rw[if_pos c8] at e;exact .inl ⟨c8,e.symm⟩
   rw[if_neg c8] at e;by_cases ck:k2=l.length
   ·rw[if_pos (by rw[ck];exact List.drop_length)] at e;exact .inr (.inl ⟨c8,ck,e.symm⟩)
   have hlt:k2<l.length:=by omega
   have hdr:=bM hlt;obtain⟨tl,htl⟩:∃tl,tl=l.drop (k2+1):=⟨_,rfl⟩
   rw[←htl] at hdr;rw[hdr,if_neg (List.cons_ne_nil _ _),List.head?_cons,List.drop_succ_cons,List.drop_zero] at e;right;right;refine⟨c8,hlt, ?_⟩;by_cases c44:l[k2]=44
   ·right;rw[if_neg (fun z=>z (by rw[c44]))] at e;exact⟨c44,by simp only;omega,by simp only;omega,by simp;omega,by simp only;rw[←htl];exact e⟩
   ·left;rw[if_pos (fun z=>c44 (Option.some.inj z))] at e;exact⟨c44,e.symm⟩
  have xk1:(k1:Int)≤l.length:=by omega
  by_cases hcol:∃h:k1<l.length,l[k1]=58
  ·obtain⟨c1,c58⟩:=hcol;have hh:(l.drop k1).head? =some 58:=by rw[bM c1,c58];rfl
   rw[if_pos hh,List.drop_drop] at hq;have c2:(k1:Int)<l.length:=by omega
   have hget:∀hh:k1<l.length,l[k1]'hh=58:=fun _=>c58
   have e1:IntKind.i64.wrap ((k1:Int)+1)=((k1+1:Nat):Int):=wrap_i64 (by omega) (by omega);obtain⟨m1,m2⟩:=ai.bg kn l hl (k1+1) (by omega);cases hm:dA (l.drop (k1+1)) with
   |none=>
    right;rw[hm] at hq;obtain⟨x',y',g2⟩:=m2 hm;refine no hq.symm ?_;simp only[iv,nr,kl];refine⟨v, ?_⟩;generalize acc.map b8=ra at*;generalize hk11:k1+1=k11 at*;simp (maxSteps:=9^9) [al.l0,ax,aa,setAt,aj,g1,g2,c1,c2,hget,e1]
   |some yr=>
    obtain⟨y,r2⟩:=yr;rw[hm] at hq;obtain⟨k2,g2,i1,i2,hr2⟩:=m1 y r2 hm;subst hr2;simp only at hq;have hb:=behind ⟨(x:Int),(y:Int)⟩ k2 i2 (by omega) hq;generalize hk11:k1+1=k11 at*;rcases hb with⟨b1,b2⟩|⟨b1,b2,b3⟩|⟨b1,b2,⟨b3,b4⟩|⟨b3,b4⟩⟩
    ·right;have b5:(8:Int)<acc.length+1:=by omega
     refine no b2 ?_;simp only[iv,nr,kl]
     try simp only[b8]
     generalize acc.map b8=ra at*;simp (maxSteps:=9^9) [al.l0,ax,aa,setAt,aj,g1,g2,c1,c2,hget,e1,er,et,e5,b5]
    ·right;have b5:¬(8:Int)<acc.length+1:=by omega
     have b6:(k2:Int)=l.length:=by omega
     suffices hh:∃v' n',bH (run M) k al.l0 (iv l ⟨d+1,a,acc,w,v,n⟩)=some (.ret,jM (acc++[⟨(x:Int),(y:Int)⟩]) w v' n') by
      obtain⟨v',n',hh⟩:=hh;exact⟨_,hh,by simp,.inl ⟨_,_,_,_,rfl,b3,by simp;omega⟩⟩
     simp only[iv,nr,jM,dD,aY,bX,a_,ak,bd]
     try simp only[b8]
     generalize acc.map b8=ra at*;simp (maxSteps:=9^9) [al.l0,ax,aa,setAt,aj,g1,g2,c1,c2,hget,e1,er,et,e5,b5,b6]
    ·right;have b5:¬(8:Int)<acc.length+1:=by omega
     have b6:¬(k2:Int)=l.length:=by omega
     obtain⟨z,hz⟩:∃z,z=l[k2]:=⟨_,rfl⟩
     have hget2:∀hh:k2<l.length,l[k2]'hh=z:=fun _=>hz.symm
     rw[←hz] at b3;have b7:¬(z.toNat:Int)=44:=fun h=>b3 ((kA _ 44).1 h)
     refine no b4 ?_;simp only[iv,nr,kl]
     try simp only[b8]
     generalize acc.map b8=ra at*;simp (maxSteps:=9^9) [al.l0,ax,aa,setAt,aj,g1,g2,c1,c2,hget,hget2,b2,e1,er,et,e5,b5,b6,b7]
    ·left;have b5:¬(8:Int)<acc.length+1:=by omega
     have b6:¬(k2:Int)=l.length:=by omega
     have hget2:∀hh:k2<l.length,l[k2]'hh=44:=fun _=>b3
     have e3:=cZ (i:=k2) (by omega);suffices hh:∃v' n',bH (run M) k al.l0 (iv l ⟨d+1,a,acc,w,v,n⟩)=some (.normal,iv l ⟨d,k2+1,acc++[⟨(x:Int),(y:Int)⟩],w,v',n'⟩) by
      obtain⟨v',n',hh⟩:=hh;exact⟨_,hh,⟨b4.a,b4.d,b4.acc,b4.q⟩,Nat.lt_succ_self _⟩
     simp only[iv,nr,dD,aY,bX,a_,ak,bd]
     try simp only[b8]
     generalize acc.map b8=ra at*;simp (maxSteps:=9^9) [al.l0,ax,aa,setAt,aj,g1,g2,c1,c2,hget,hget2,b2,e1,e3,er,et,e5,b5,b6]
  ·have hh:¬(l.drop k1).head? =some 58:=by
    by_cases c1:k1<l.length
    ·rw[bM c1];intro e;simp only[List.head?_cons,af] at e;exact hcol ⟨c1,e⟩
    ·rw[dS (by omega)];simp
   rw[if_neg hh] at hq;simp only at hq;have hb:=behind ⟨(x:Int),(x:Int)⟩ k1 j2 j1 hq;rcases hb with⟨b1,b2⟩|⟨b1,b2,b3⟩|⟨b1,b2,⟨b3,b4⟩|⟨b3,b4⟩⟩
   ·right;have b5:(8:Int)<acc.length+1:=by omega
    refine no b2 ?_;simp only[iv,nr,kl]
    try simp only[b8]
    generalize acc.map b8=ra at*;by_cases c1:k1<l.length
    ·have c2:(k1:Int)<l.length:=by omega
     obtain⟨z,hz⟩:∃z,z=l[k1]:=⟨_,rfl⟩
     have hget:∀hh:k1<l.length,l[k1]'hh=z:=fun _=>hz.symm
     have c58:¬(z.toNat:Int)=58:=fun h=>hcol ⟨c1,by rw[←hz];exact(kA _ 58).1 h⟩
     simp (maxSteps:=9^9) [al.l0,ax,aa,setAt,aj,g1,c1,c2,hget,c58,er,et,e5,b5]
    ·have c2:¬(k1:Int)<l.length:=by omega
     simp (maxSteps:=9^9) [al.l0,ax,aa,setAt,aj,g1,c2,er,et,e5,b5]
   ·right;have b5:¬(8:Int)<acc.length+1:=by omega
    have b6:(k1:Int)=l.length:=by omega
    have c2:¬(k1:Int)<l.length:=by omega
    suffices hh:∃v' n',bH (run M) k al.l0 (iv l ⟨d+1,a,acc,w,v,n⟩)=some (.ret,jM (acc++[⟨(x:Int),(x:Int)⟩]) w v' n') by
     obtain⟨v',n',hh⟩:=hh;exact⟨_,hh,by simp,.inl ⟨_,_,_,_,rfl,b3,by simp;omega⟩⟩
    simp only[iv,nr,jM,dD,aY,bX,a_,ak,bd]
    try simp only[b8]
    generalize acc.map b8=ra at*;subst b2;have c3:¬(l.length:Int)<l.length:=by omega
    simp (maxSteps:=9^9) [al.l0,ax,aa,setAt,aj,g1,er,et,e5,b5]
   ·right;have b5:¬(8:Int)<acc.length+1:=by omega
    have b6:¬(k1:Int)=l.length:=by omega
    have c2:(k1:Int)<l.length:=by omega
    obtain⟨z,hz⟩:∃z,z=l[k1]:=⟨_,rfl⟩
    have hget:∀hh:k1<l.length,l[k1]'hh=z:=fun _=>hz.symm
    have c58:¬(z.toNat:Int)=58:=fun h=>hcol ⟨b2,by rw[←hz];exact(kA _ 58).1 h⟩
    rw[←hz] at b3;have b7:¬(z.toNat:Int)=44:=fun h=>b3 ((kA _ 44).1 h)
    refine no b4 ?_;simp only[iv,nr,kl]
    try simp only[b8]
    generalize acc.map b8=ra at*;simp (maxSteps:=9^9) [al.l0,ax,aa,setAt,aj,g1,b2,c2,hget,c58,er,et,e5,b5,b6,b7]
   ·left;have b5:¬(8:Int)<acc.length+1:=by omega
    have b6:¬(k1:Int)=l.length:=by omega
    have c2:(k1:Int)<l.length:=by omega
    have hget:∀hh:k1<l.length,l[k1]'hh=44:=fun _=>b3
    have e3:=cZ (i:=k1) (by omega);suffices hh:∃v' n',bH (run M) k al.l0 (iv l ⟨d+1,a,acc,w,v,n⟩)=some (.normal,iv l ⟨d,k1+1,acc++[⟨(x:Int),(x:Int)⟩],w,v',n'⟩) by
     obtain⟨v',n',hh⟩:=hh;exact⟨_,hh,⟨b4.a,b4.d,b4.acc,b4.q⟩,Nat.lt_succ_self _⟩
    simp only[iv,nr,dD,aY,bX,a_,ak,bd]
    try simp only[b8]
    generalize acc.map b8=ra at*;simp (maxSteps:=9^9) [al.l0,ax,aa,setAt,aj,g1,b2,c2,hget,e3,er,et,e5,b5,b6]
theorem al.bg(h:al.k M)(l:List UInt8)(hl:l.length≤1048576):
  run M 322 [.c (S l)] []=some (.fW [.c (.sl true 2 ((cJ l).1.map b8)),.c (.bool (cJ l).2)],[]):=by
 obtain⟨h0,kn⟩:=h;have hcs:hH (l.length+1) l []=cJ l:=mB _ l [] (Nat.lt_succ_self _) (by simp);obtain⟨r,hr,hp⟩:=eQ (f:=bH (run M) (l.length+2) al.l0) (iv l) (su l (cJ l)) (fun s=>s.d) (sG (cJ l))
  (fun s hs=>qj kn _ l hl _ s hs) (l.length+2) ⟨l.length+1,0,[],2000032,2000064,2000112⟩ ⟨Nat.zero_le _,by simp only;omega,by simp,by simpa using hcs⟩ (by simp only;omega)
 refine aP (b:=al.m) h0 ⟨l.length+2, ?_⟩;have e0:((0:Nat):Int)=0:=rfl;rcases hp with⟨acc,w,v,n,rfl,hq,h8⟩|⟨w,v,n,ra,rfl,hq⟩
 ·rw[hq];have er:(acc.map b8).length=acc.length:=by simp
  have et:(acc.map b8).take acc.length=acc.map b8:=aa (by omega);simp only[iv,nr,jM,bX,bd,e0] at hr ⊢;generalize acc.map b8=rt at*;simp (maxSteps:=9^9) [cX,al.m,al.b,ax,aa,setAt,aj,hr,er,et]
 ·rw[hq];simp only[iv,nr,kl,bX,bd,e0] at hr ⊢;simp (maxSteps:=9^9) [cX,al.m,al.b,ax,aa,setAt,aj,hr]
end Mx
namespace Mx
open Go
theorem jg:∀(k m:Nat) (acc:List UInt8),m≤k→eB m acc=eB m []++acc
 |0,m,acc,h=>by
  have:m=0:=by omega
  subst this;simp[db]
 |k+1,m,acc,h=>by
  by_cases c:m=0
  ·subst c;simp[db]
  ·rw[dL c,dL c (acc:=[]),jg k (m/10) _ (by omega),jg k (m/10) [lR (m%10)] (by omega),bh];rfl
theorem jL{m:Nat}(h:m≠0):eB m []=eB (m/10) []++[lR (m%10)]:=by
 rw[dL h,jg (m/10) _ _ (Nat.le_refl _)]
theorem mb(d:UInt8):∀(l:List UInt8) (n:Nat),val (l++[d]) n=10*val l n+(d.toNat-48)
 |[],n=>rfl
 |c::l,n=>by rw[List.cons_append,val,mb d l];rfl
theorem k6:∀(k m:Nat),m≤k→val (eB m []) 0=m∧(eB m []).all bo=true
 |0,m,h=>by
  have:m=0:=by omega
  subst this;simp[db,val]
 |k+1,m,h=>by
  by_cases c:m=0
  ·subst c;simp[db,val]
  ·obtain⟨h1,h2⟩:=k6 k (m/10) (by omega);obtain⟨f1,f2⟩:=p8 (d:=m%10) (by omega);rw[jL c];refine⟨?_, ?_⟩
   ·rw[mb,h1,f2];omega
   ·rw[List.all_append,h2];simp[f1]
def bP(n:Int):List UInt8:=if n=0 then [42] else dec n
theorem kR{n:Int}(h:0≤n∧n≤9999):bA (bP n)=(n.toNat,true)∧(∀b∈bP n,b≠44∧b≠58):=by
 unfold bP;by_cases c:n=0
 ·subst c;simp[bA]
 ·rw[if_neg c];have e:dec n=eB n.toNat []:=by
   unfold dec;rw[if_neg c,if_neg (by omega),b9,show n.natAbs=n.toNat by omega]
  rw[e];obtain⟨h1,h2⟩:=k6 n.toNat n.toNat (Nat.le_refl _);have hl:=gq 4 n.toNat [] (by omega);have hne:eB n.toNat []≠[]:=by
   rw[jL (by omega)];simp
  have h42:¬eB n.toNat []=[42]:=by
   intro e;rw[e] at h2;simp[bo] at h2
  refine⟨?_,fun b hb=> ?_⟩
  ·unfold bA;rw[if_neg h42,if_pos ⟨by simpa using hl,h2,hne,by rw[h1];omega⟩,h1]
  ·rw[au] at h2;have:=h2 b hb;constructor
   ·rintro rfl;simp[bo] at this
   ·rintro rfl;simp[bo] at this
def dZ(r:Range):List UInt8:=bP r.a++if r.a=r.b then [] else 58::bP r.b
def ew(r:Range):Prop:=(0≤r.a∧r.a≤9999)∧(0≤r.b∧r.b≤9999)
theorem qh{x y:List UInt8}(h:∀b∈x,b≠58):cr (x++58::y)=(x,y,true):=by
 have e:(x++58::y).takeWhile (·≠58)=x:=by
  rw[List.takeWhile_append_of_pos (fun b hb=>by simpa using h b hb)];simp
 unfold cr;rw[if_pos (by simp),e,←List.drop_drop,List.drop_left];rfl
theorem gR{r:Range}(h:ew r):du (dZ r)=some r∧∀b∈dZ r,b≠44:=by
 obtain⟨ha,hb⟩:=h;obtain⟨a1,a2⟩:=kR ha;obtain⟨b1,b2⟩:=kR hb;obtain⟨a,b⟩:=r;simp only at ha hb a1 a2 b1 b2;unfold dZ;simp only;by_cases c:a=b
 ·subst c;rw[if_pos rfl,b_];have e:cr (bP a)=(bP a,[],false):=by unfold cr;rw[if_neg (fun z=>(a2 _ z).2 rfl)]
  refine⟨?_,fun x hx=>(a2 x hx).1⟩;unfold du fe;rw[e];simp only[av,if_false,a1,and_self,if_true];congr 2<;>omega
 ·rw[if_neg c];have e:=qh (y:=bP b) fun x hx=>(a2 x hx).2
  refine⟨?_,fun x hx=> ?_⟩
  ·unfold du fe;rw[e];simp only[if_true,a1,b1,and_self];congr 2<;>omega
  ·rcases List.mem_append.1 hx with z|z
   ·exact(a2 x z).1
   ·rcases List.mem_cons.1 z with rfl|z
    ·decide
    ·exact(b2 x z).1
theorem iQ:∀{p:List UInt8},(∀b∈p,b≠44)→pieces p=[p]
 |[],_=>rfl
 |b::p,h=>by
  rw[pieces,if_neg (h b (a8 ..)),iQ fun x hx=>h x (aV _ hx)]
theorem gQ:∀{p:List UInt8} (r:List UInt8),(∀b∈p,b≠44)→pieces (p++44::r)=p::pieces r
 |[],r,_=>by simp[pieces]
 |b::p,r,h=>by
  rw[List.cons_append,pieces,if_neg (h b (a8 ..)),gQ r fun x hx=>h x (aV _ hx)]
def bT:List Range→List UInt8
 |[]=>[]
 |[r]=>dZ r
 |r::s::t=>dZ r++44::bT (s::t)
theorem kH:∀(l:List Range) (acc:List Range),l≠[]→(∀r∈l,ew r)→acc.length+l.length≤8→c7 (pieces (bT l)) acc=(acc++l,true)
 |[],_,h,_,_=>(h rfl).elim
 |[r],acc,_,hg,ha=>by
  obtain⟨h1,h2⟩:=gR (hg r (a8 ..));simp only[ak,bd] at ha;rw[bT,iQ h2,c7,h1];simp only[if_neg (show ¬acc.length=8 by omega),c7]
 |r::s::t,acc,_,hg,ha=>by
  obtain⟨h1,h2⟩:=gR (hg r (a8 ..));simp only[ak] at ha;rw[bT,gQ _ h2,c7,h1];simp only[if_neg (show ¬acc.length=8 by omega)];rw[kH (s::t) (acc++[r]) (by simp) (fun x hx=>hg x (aV _ hx)) (by simp;omega)];simp
theorem j6{l:List Range}(h:l≠[])(hg:∀r∈l,ew r)(hl:l.length≤8):cJ (bT l)=(l,true):=by
 have:=kH l [] h hg (by simpa using hl);simpa [cJ] using this
end Mx
namespace Mx
open Go
attribute [-simp] bH step ec dh gj gI bS
variable {M:Nat→Option Body}
theorem ba.bg(h:ba.k M)(n:Int)(hn:0≤n∧n≤9999):run M 537 [.c (I n)] []=some (.c (S (bP n)),[]):=by
 obtain⟨h0,k1⟩:=h;have h1:=aG.bg k1 n (by omega) (by omega);refine aP (b:=ba.m) h0 ⟨0, ?_⟩;unfold bP;by_cases c:n=0
 ·rw[if_pos c];simp (maxSteps:=9^9) [cX,ba.m,ba.b,ax,aa,setAt,aj,c]
 ·rw[if_neg c];simp (maxSteps:=9^9) [cX,ba.m,ba.b,ax,aa,setAt,aj,c,h1]
theorem bj.bg(h:bj.k M)(n:Int)(hn:0≤n∧n≤9999):run M 540 [.c (I n)] []=some (.c (S (bP n)),[]):=by
 obtain⟨h0,k1⟩:=h;have h1:=aA.bg k1 n (by omega) (by omega);refine aP (b:=bj.m) h0 ⟨0, ?_⟩;unfold bP;by_cases c:n=0
 ·have c2:n≤0:=by omega
  rw[if_pos c];simp (maxSteps:=9^9) [cX,bj.m,bj.b,ax,aa,setAt,aj,c2]
 ·have c2:¬n≤0:=by omega
  rw[if_neg c];simp (maxSteps:=9^9) [cX,bj.m,bj.b,ax,aa,setAt,aj,c2,h1]
theorem fy{n:Int}(h:0≤n∧n≤9999):(bP n).length≤21:=by
 unfold bP;split
 ·simp
 ·exact qf (by omega) (by omega)
theorem iP{r:Range}(h:ew r):(dZ r).length≤43:=by
 have h1:=fy h.1;have h2:=fy h.2;unfold dZ;rw[a_];split
 ·simp;omega
 ·simp;omega
theorem iN(r:Range):∀l:List Range,bT (l++[r])=(if l=[] then [] else bT l++[44])++dZ r
 |[]=>by simp[bT]
 |[s]=>by simp[bT]
 |s::t::l=>by
  have:=iN r (t::l);rw[if_neg (by simp)] at this ⊢;rw[List.cons_append] at this;simp only[List.cons_append,bT,this,bh,b9]
theorem lG{l:List Range}{i:Nat}(hi:i<l.length):bT (l.take (i+1))=(if i=0 then [] else bT (l.take i)++[44])++dZ l[i]:=by
 rw[List.take_succ_eq_append_getElem hi,iN];congr 1;by_cases c:i=0
 ·subst c;simp
 ·rw[if_neg c,if_neg (fun e=>by have:=congrArg List.length e;rw[cT,bd] at this;omega)]
theorem fu:∀{l:List Range},(∀r∈l,ew r)→(bT l).length≤44*l.length
 |[],_=>by simp[bT]
 |[r],h=>by have:=iP (h r (a8 ..));simp only[bT,ak,bd];omega
 |r::s::l,h=>by
  have h1:=iP (h r (a8 ..));have h2:=fu (l:=s::l) (fun x hx=>h x (aV _ hx));simp only[bT,a_,ak] at h2 ⊢;omega
def pU(l:List Range)(i:Nat)(x:Nat):St:={t:=[(3,.c (S (bT (l.take i)))),(6,.c (bO l)),(7,.c (I l.length)),(8,.c (I i))],o:=[],n:=x}
def rn(l:List Range)(x:Nat):St:={t:=[(3,.c (S (bT l))),(6,.c (bO l)),(7,.c (I l.length)),(8,.c (I l.length)),(9,.c (.bool false))],o:=[],n:=x}
def pB(l:List Range)(i:Nat)(x:Nat):St:={t:=[(0,.c (bO l)),(3,.c (S (bT (l.take i)))),(4,.c (I i))],o:=[],n:=x}
def q7(l:List Range)(x:Nat):St:={t:=[(0,.c (bO l)),(3,.c (S (bT l))),(4,.c (I l.length)),(8,.c (.bool false))],o:=[],n:=x}
theorem iM{l:List Range}(hl:l.length≤1000)(hg:∀r∈l,ew r){i:Nat}(hi:i<l.length):
  ∃t1:List UInt8,t1=(if i=0 then [] else bT (l.take i)++[44])∧(i=0→bT (l.take i)=[])∧cq .add (bs (bT (l.take i))) {data:= #[44]}=some (S (bT (l.take i)++[44]))∧
   cq .add (bs t1) (bs (bP l[i].a))=some (S (t1++bP l[i].a))∧cq .add (bs (t1++bP l[i].a)) {data:= #[58]}=some (S (t1++bP l[i].a++[58]))∧
   cq .add (bs (t1++bP l[i].a++[58])) (bs (bP l[i].b))=some (S (t1++bP l[i].a++[58]++bP l[i].b))∧
   bT (l.take (i+1))=if l[i].a=l[i].b then t1++bP l[i].a else t1++bP l[i].a++[58]++bP l[i].b:=by
 have h1:=fy (hg _ (bG hi)).1;have h2:=fy (hg _ (bG hi)).2;have h3:=fu (l:=l.take i) fun r hr=>hg r (List.mem_of_mem_take hr)
 rw[cT] at h3;have hlen:(if i=0 then([]:List UInt8) else bT (l.take i)++[44]).length≤50000:=by
  split
  ·simp
  ·simp;omega
 refine⟨_,rfl,fun e=>by subst e;rfl,aj _ [44] (by simp;omega),aj _ _ (by omega),aj _ [58] (by simp only[a_,ak,bd];omega),aj _ _ (by simp only[a_,ak,bd];omega), ?_⟩;rw[lG hi];unfold dZ;by_cases d:l[i].a=l[i].b
 ·rw[if_pos d,if_pos d,b_]
 ·rw[if_neg d,if_neg d];simp only[bh,List.cons_append,b9]
theorem aQ.bg(h:aQ.k M)(l:List Range)(hl:l.length≤1000)(hg:∀r∈l,ew r):run M 529 [.c (bO l)] []=some (.c (S (bT l)),[]):=by
 obtain⟨h0,k1⟩:=h;have hrl:=cC l;obtain⟨g,hr⟩:=dq (f:=bH (run M) (l.length+1) aQ.l0) l.length (pU l) 0 (rn l) (fun i hi x=>by
   obtain⟨t1,ht1,z1,s1,s2,s3,s4,e6⟩:=iM hl hg hi;have g1:=ba.bg k1 l[i].a (hg _ (bG hi)).1;have g2:=ba.bg k1 l[i].b (hg _ (bG hi)).2;have ha:∀hh:i<(rows l).length,(rows l)[i]'hh=[I l[i].a,I l[i].b]:=fun hh=>ft l i hh
   have e5:=cZ (i:=i) (by omega);have hi2:(i:Int)<l.length:=by omega
   simp only[pU,eY,e6];generalize l[i]=r at*;obtain⟨a,b⟩:=r;simp only at g1 g2 ha s2 s3 s4 ⊢;generalize bT (l.take i)=t0 at*;generalize t1++bP a++[58]++bP b=t5 at*;generalize t1++bP a++[58]=t4 at*;generalize t1++bP a=t3 at*;generalize bP a=xa at*;generalize bP b=xb at*;simp only[bO];generalize rows l=rl at*;by_cases c:i=0
   ·have c1:¬0<i:=by omega
    have t00:=z1 c;rw[if_pos c] at ht1;subst ht1;subst t00;subst c;have e0:((0:Nat):Int)=0:=rfl;have e1:IntKind.i64.wrap 1=1:=by decide
    simp only[e0] at hi2 e5 ⊢;by_cases d:a=b
    ·subst d;simp only[if_true];simp (maxSteps:=9^9) [aQ.l0,ax,aa,setAt,aj,hrl,ha,hi,hi2,e5,e1,g1,g2,s2]
    ·rw[if_neg d];simp (maxSteps:=9^9) [aQ.l0,ax,aa,setAt,aj,hrl,ha,hi,hi2,e5,e1,g1,g2,s2,s3,s4,d]
   ·have c1:0<i:=by omega
    rw[if_neg c] at ht1;rw[←ht1] at s1;by_cases d:a=b
    ·subst d;simp only[if_true];simp (maxSteps:=9^9) [aQ.l0,ax,aa,setAt,aj,hrl,ha,hi,hi2,e5,g1,g2,s1,s2,c1]
    ·rw[if_neg d];simp (maxSteps:=9^9) [aQ.l0,ax,aa,setAt,aj,hrl,ha,hi,hi2,e5,g1,g2,s1,s2,s3,s4,c1,d])
  (fun x=>by
   simp only[pU,rn,List.take_length,bO];generalize rows l=rl at*;simp (maxSteps:=9^9) [aQ.l0,ax,aa,setAt,aj,hrl])
 refine aP (b:=aQ.m) h0 ⟨l.length+1, ?_⟩;have e0:((0:Nat):Int)=0:=rfl;simp only[pU,rn,List.take_zero,bT,bO,e0] at hr ⊢;generalize rows l=rl at*;simp (maxSteps:=9^9) [cX,aQ.m,aQ.b,ax,aa,setAt,aj,hr,hrl]
theorem aL.bg(h:aL.k M)(l:List Range)(hl:l.length≤1000)(hg:∀r∈l,ew r):run M 535 [.c (bO l)] []=some (.c (S (bT l)),[]):=by
 obtain⟨h0,k1⟩:=h;have hrl:=cC l;obtain⟨g,hr⟩:=dq (f:=bH (run M) (l.length+1) aL.l0) l.length (pB l) 0 (q7 l) (fun i hi x=>by
   obtain⟨t1,ht1,z1,s1,s2,s3,s4,e6⟩:=iM hl hg hi;have g1:=bj.bg k1 l[i].a (hg _ (bG hi)).1;have g2:=bj.bg k1 l[i].b (hg _ (bG hi)).2;have ha:∀hh:i<(rows l).length,(rows l)[i]'hh=[I l[i].a,I l[i].b]:=fun hh=>ft l i hh
   have e5:=cZ (i:=i) (by omega);have hi2:(i:Int)<l.length:=by omega
   simp only[pB,eY,e6];generalize l[i]=r at*;obtain⟨a,b⟩:=r;simp only at g1 g2 ha s2 s3 s4 ⊢;generalize bT (l.take i)=t0 at*;generalize t1++bP a++[58]++bP b=t5 at*;generalize t1++bP a++[58]=t4 at*;generalize t1++bP a=t3 at*;generalize bP a=xa at*;generalize bP b=xb at*;simp only[bO];generalize rows l=rl at*;have dd:¬a=b→¬b=a:=fun n e=>n e.symm
   by_cases c:i=0
   ·have c1:¬0<i:=by omega
    have t00:=z1 c;rw[if_pos c] at ht1;subst ht1;subst t00;subst c;have e0:((0:Nat):Int)=0:=rfl;have e1:IntKind.i64.wrap 1=1:=by decide
    simp only[e0] at hi2 e5 ⊢;by_cases d:a=b
    ·subst d;simp only[if_true];simp (maxSteps:=9^9) [aL.l0,ax,aa,setAt,aj,hrl,ha,hi,hi2,e5,e1,g1,g2,s2]
    ·rw[if_neg d];have d2:=dd d;simp (maxSteps:=9^9) [aL.l0,ax,aa,setAt,aj,hrl,ha,hi,hi2,e5,e1,g1,g2,s2,s3,s4,d,d2]
   ·have c1:0<i:=by omega
    rw[if_neg c] at ht1;rw[←ht1] at s1;by_cases d:a=b
    ·subst d;simp only[if_true];simp (maxSteps:=9^9) [aL.l0,ax,aa,setAt,aj,hrl,ha,hi,hi2,e5,g1,g2,s1,s2,c1]
    ·rw[if_neg d];have d2:=dd d;simp (maxSteps:=9^9) [aL.l0,ax,aa,setAt,aj,hrl,ha,hi,hi2,e5,g1,g2,s1,s2,s3,s4,c1,d,d2])
  (fun x=>by
   simp only[pB,q7,List.take_length,bO];generalize rows l=rl at*;simp (maxSteps:=9^9) [aL.l0,ax,aa,setAt,aj,hrl])
 refine aP (b:=aL.m) h0 ⟨l.length+1, ?_⟩;have e0:((0:Nat):Int)=0:=rfl;simp only[pB,q7,List.take_zero,bT,bO,e0] at hr ⊢;generalize rows l=rl at*;simp (maxSteps:=9^9) [cX,aL.m,aL.b,ax,aa,setAt,aj,hr,hrl]
end Mx
namespace Mx
open Go
variable {M:Nat→Option Body}
abbrev dx(R:List (List T))(i:Nat)(h:Int):Nat×Ob:=(0,⟨0,3,true,true,[[.sl false 1 R,I i,I h]]⟩)
def Bytes(R:List (List T)):Prop:=R.length≤1048576∧∀(i:Nat) (r:List T),R[i]? =some r→∃n:Int,r=[.int .u8 n]
theorem mH(x:Int):∃n:Nat,n<256∧oT .i64 x 255=(n:Int):=by
 rw[qm];refine⟨(x%((2^IntKind.i64.bits:Nat):Int)).toNat&&&255, ?_, ?_⟩
 ·have:(x%((2^IntKind.i64.bits:Nat):Int)).toNat&&&255≤255:=Nat.and_le_right;omega
 ·have h:(x%((2^IntKind.i64.bits:Nat):Int)).toNat&&&255≤255:=Nat.and_le_right;have e:((255:Int)%((2^IntKind.i64.bits:Nat):Int)).toNat=255:=by decide
  rw[e];exact wrap_i64 (by omega) (by omega)
theorem aS.bg(h:aS.k M){R:List (List T)}(hR:Bytes R)(i:Nat)(q:Int)(hi:i≤R.length):
  ∃(x i':Nat) (q':Int),x<256∧i'≤R.length∧run M 131 [.c (.ptr 0 0 0 0)] [dx R i q]=some (.c (I x),[dx R i' q']):=by
 obtain⟨hl,hb⟩:=hR;obtain⟨q1,hq1⟩:∃q1,IntKind.i64.wrap (IntKind.i64.wrap (q*6364136223846793005)+1442695040888963407)=q1:=⟨_,rfl⟩
 obtain⟨x,hx,e1⟩:=mH (rQ .i64 (q1.fdiv ((2:Int)^min 33 IntKind.i64.bits)) (q1.fdiv ((2:Int)^min 45 IntKind.i64.bits)));by_cases hlt:i<R.length
 ·obtain⟨n,hn⟩:=hb i R[i] (cg hlt);obtain⟨y,hy,e2⟩:=mH (IntKind.i64.wrap (x+IntKind.i64.wrap n));refine⟨y,i+1,q1,hy,by omega, ?_⟩;refine aP (b:=aS.m) h ⟨0, ?_⟩;have e3:=cZ (i:=i) (by omega);simp (maxSteps:=9^9) [cX,aS.m,aS.b,aq,setAt,hq1,e1,e2,e3,hlt,hn]
 ·refine⟨x,i,q1,hx,hi, ?_⟩;refine aP (b:=aS.m) h ⟨0, ?_⟩;simp (maxSteps:=9^9) [cX,aS.m,aS.b,aq,setAt,hq1,e1,hlt]
theorem fJ(x n:Nat)(hn:0<n):∃y:Nat,y<n∧((x:Int).tmod (n:Int))=(y:Int):=⟨x%n,Nat.mod_lt _ hn,by rw[Int.tmod_eq_emod_of_nonneg (by omega)];rfl⟩
theorem ar.bg(h:ar.k M){R:List (List T)}(hR:Bytes R)(i:Nat)(q:Int)(hi:i≤R.length)(n:Nat)(hn:0<n)(hn2:n≤1000000000):
  ∃(x i':Nat) (q':Int),x<n∧i'≤R.length∧run M 125 [.c (.ptr 0 0 0 0),.c (I n)] [dx R i q]=some (.c (I x),[dx R i' q']):=by
 obtain⟨h0,k1⟩:=h;have n0:¬(n:Int)≤0:=by omega
 have n1:¬n=0:=by omega
 obtain⟨x1,i1,q1,hx1,hi1,h1⟩:=aS.bg k1 hR i q hi;by_cases hs:n≤256
 ·have hs2:(n:Int)≤256:=by omega
  obtain⟨y,hy,e⟩:=fJ x1 n hn;refine⟨y,i1,q1,hy,hi1, ?_⟩;refine aP (b:=ar.m) h0 ⟨0, ?_⟩;simp (maxSteps:=9^9) [cX,ar.m,ar.b,aq,h1,n1,hs2,e]
 ·have hs2:¬(n:Int)≤256:=by omega
  obtain⟨x2,i2,q2,hx2,hi2,h2⟩:=aS.bg k1 hR i1 q1 hi1;obtain⟨x3,i3,q3,hx3,hi3,h3⟩:=aS.bg k1 hR i2 q2 hi2;obtain⟨x4,i4,q4,hx4,hi4,h4⟩:=aS.bg k1 hR i3 q3 hi3;have w1:IntKind.i64.wrap ((x1:Int)*16777216)=((x1*16777216:Nat):Int):=wrap_i64 (by omega) (by omega);have w2:IntKind.i64.wrap ((x2:Int)*65536)=((x2*65536:Nat):Int):=wrap_i64 (by omega) (by omega);have w3:IntKind.i64.wrap ((x3:Int)*256)=((x3*256:Nat):Int):=wrap_i64 (by omega) (by omega);obtain⟨y1,hy1⟩:∃y1,x1*16777216=y1:=⟨_,rfl⟩
  obtain⟨y2,hy2⟩:∃y2,x2*65536=y2:=⟨_,rfl⟩
  obtain⟨y3,hy3⟩:∃y3,x3*256=y3:=⟨_,rfl⟩
  rw[hy1] at w1;rw[hy2] at w2;rw[hy3] at w3;have w4:IntKind.i64.wrap ((y1:Int)+y2)=((y1+y2:Nat):Int):=wrap_i64 (by omega) (by omega);obtain⟨z1,hz1⟩:∃z1,y1+y2=z1:=⟨_,rfl⟩
  rw[hz1] at w4;have w5:IntKind.i64.wrap ((z1:Int)+y3)=((z1+y3:Nat):Int):=wrap_i64 (by omega) (by omega);obtain⟨z2,hz2⟩:∃z2,z1+y3=z2:=⟨_,rfl⟩
  rw[hz2] at w5;have w6:IntKind.i64.wrap ((z2:Int)+x4)=((z2+x4:Nat):Int):=wrap_i64 (by omega) (by omega);obtain⟨z3,hz3⟩:∃z3,z2+x4=z3:=⟨_,rfl⟩
  rw[hz3] at w6;obtain⟨y,hy,e⟩:=fJ z3 n hn;refine⟨y,i4,q4,hy,hi4, ?_⟩;refine aP (b:=ar.m) h0 ⟨0, ?_⟩;simp (maxSteps:=9^9) [cX,ar.m,ar.b,aq,h1,h2,h3,h4,w1,w2,w3,w4,w5,w6,n1,hs2,e]
theorem bC.bg(h:bC.k M){R:List (List T)}(hR:Bytes R)(i:Nat)(q:Int)(hi:i≤R.length)(ss:List (List UInt8))(h0:0<ss.length)(hn:ss.length≤256):
  ∃(s:List UInt8) (i':Nat) (q':Int),s∈ss∧i'≤R.length∧run M 185 [.c (.ptr 0 0 0 0),.c (.sl false 1 (ss.map fun s=>[S s]))] [dx R i q]=some (.c (S s),[dx R i' q']):=by
 obtain⟨hm,k1⟩:=h;obtain⟨x,i1,q1,hx,hi1,h1⟩:=ar.bg k1 hR i q hi ss.length h0 (by omega);refine⟨ss[x],i1,q1,bG hx,hi1, ?_⟩;refine aP (b:=bC.m) hm ⟨0, ?_⟩;simp (maxSteps:=9^9) [cX,bC.m,bC.b,aq,h1,hx]
def lY(R:List (List T))(i:Nat):Int:=match R[i]? with
 |some [.int _ n]=>IntKind.i64.wrap n
 |_=>0
def pY(R:List (List T)):Nat→Int
 |0=>77201+R.length
 |i+1=>oT .i64 (IntKind.i64.wrap (IntKind.i64.wrap (IntKind.i64.wrap (pY R i*131)+lY R i)+7)) 1073741823
def mn(R:List (List T)):Nat:=min R.length 4000
def sn(R:List (List T))(i:Nat)(x:Nat):St:={t:=[(0,.c (.sl false 1 R)),(3,.c (I (pY R i))),(4,.c (I i))],o:=[],n:=x}
def sx(R:List (List T))(x:Nat):St:={t:=[(0,.c (.sl false 1 R)),(3,.c (I (pY R (mn R)))),(4,.c (I (mn R))),(15,.c (.bool false))],o:=[],n:=x}
theorem aF.bg(h:aF.k M){R:List (List T)}(hR:Bytes R):
  ∃q:Int,run M 124 [.c (.sl false 1 R)] []=some (.c (.vp [.sl false 1 R,I 0,I q] 0),[]):=by
 refine⟨pY R (mn R),aP (b:=aF.m) h ⟨mn R+1, ?_⟩⟩;have hl:=hR.1;obtain⟨g,hr⟩:=dq (f:=bH (run M) (mn R+1) aF.l0) (mn R) (sn R) 0 (sx R)
  (fun i hi x=>by
   have h1:i<R.length:=by unfold mn at hi;omega
   have h2:i<4000:=by unfold mn at hi;omega
   have h3:(i:Int)<4000:=by omega
   obtain⟨n,hn⟩:=hR.2 i R[i] (cg h1);have hb:lY R i=IntKind.i64.wrap n:=by simp[lY,h1,hn]
   have e3:=cZ (i:=i) (by omega);simp only[sn,pY,hb];generalize pY R i=q;simp (maxSteps:=9^9) [aF.l0,h1,h3,hn,e3])
  (fun x=>by
   simp only[sn,sx];generalize pY R (mn R)=q;by_cases c:R.length<4000
   ·have e:mn R=R.length:=by unfold mn;omega
    rw[e];simp (maxSteps:=9^9) [aF.l0]
   ·have e:mn R=4000:=by unfold mn;omega
    rw[e];simp only[cy];by_cases c2:4000<R.length
    ·have c3:(4000:Int)<(R.length:Int):=by omega
     simp (maxSteps:=9^9) [aF.l0,c3]
    ·have c3:¬(4000:Int)<(R.length:Int):=by omega
     simp (maxSteps:=9^9) [aF.l0,c3])
 simp only[sn,sx,pY] at hr;generalize pY R (mn R)=q at*;simp at hr;have e:IntKind.i64.wrap (77201+(R.length:Int))=77201+(R.length:Int):=wrap_i64 (by omega) (by omega);simp (maxSteps:=9^9) [cX,aF.m,aF.b,aq,setAt,hr,e]
structure rE where
 i:Nat
 rows:List (List T)
 v:Nat
 vc:Nat
 ic:Nat
 q:Int
 n:Nat
theorem rE.ex{p:rE→Prop}:(∃s,p s)↔∃i rows v vc ic q n,p ⟨i,rows,v,vc,ic,q,n⟩:=⟨fun⟨⟨i,rows,v,vc,ic,q,n⟩,h⟩=>⟨i,rows,v,vc,ic,q,n,h⟩,fun⟨i,rows,v,vc,ic,q,n,h⟩=>⟨⟨i,rows,v,vc,ic,q,n⟩,h⟩⟩
def rV(R:List (List T))(s:rE):List (Nat×Ob):=[(10,⟨s.v,1,true,false,s.rows⟩),(10700,⟨s.vc,3,true,true,[[.sl false 1 R,I s.ic,I s.q]]⟩)]
def pI(R:List (List T))(s:rE):St:={t:=[(3,.c (.ptr 10700 s.vc 0 0)),(4,.c (.row 10 s.v 0 s.i)),(5,.c (I s.i))],o:=rV R s,n:=s.n}
def rW(R:List (List T))(s:rE):St:={t:=[(3,.c (.ptr 10700 s.vc 0 0)),(4,.c (.row 10 s.v 0 s.i)),(5,.c (I s.i)),(12,.c (.bool false))],o:=rV R s,n:=s.n}
structure se (R:List (List T)) (s:rE):Prop where
 i:s.i≤12
 l:s.rows.length=s.i
 r:∀r∈s.rows,∃x:Nat,x<10000∧r=[I x]
 c:s.ic≤R.length
theorem pH(hb:ar.k M){R:List (List T)}(hR:Bytes R)(k:Nat)(s:rE)(hs:se R s):
  (∃s',bH (run M) k az.l0 (pI R s)=some (.normal,pI R s')∧se R s'∧12-s'.i<12-s.i)∨
   (∃r,bH (run M) k az.l0 (pI R s)=some r∧r.1≠.normal∧∃s',r=(.exit 0,rW R s')∧s'.i=12∧se R s'):=by
 obtain⟨i,rows,v,vc,ic,q,n⟩:=s;obtain⟨hi,hl,hr,hc⟩:=hs;simp only at hi hl hr hc;obtain⟨x,ic',q',hx,hic,h1⟩:=ar.bg hb hR ic q hc 10000 (by omega) (by omega);simp only[cy] at h1;by_cases hlt:i<12
 ·left;have hlt2:(i:Int)<12:=by omega
  have e3:=cZ (i:=i) (by omega);have e4:rows.take i=rows:=aa (by omega);have e5:i+1≤4294967296:=by omega
  have e6:i≤rows.length:=by omega
  have hh:∃v' n',bH (run M) k az.l0 (pI R ⟨i,rows,v,vc,ic,q,n⟩)=some (.normal,pI R ⟨i+1,rows++[[I x]],v',vc,ic',q',n'⟩):=by
   simp only[pI,rV];simp (maxSteps:=9^9) [az.l0,h1,hl,hlt2,e3,e4,e5]
  obtain⟨v',n',hh⟩:=hh;refine⟨_,hh,⟨by simp only;omega,by simp[hl],fun r hr'=> ?_,hic⟩,by simp only;omega⟩;rcases List.mem_append.1 hr' with h|h
  ·exact hr r h
  ·simp only[lq] at h;exact⟨x,hx,h⟩
 ·right;have hlt2:¬(i:Int)<12:=by omega
  refine⟨(.exit 0,rW R ⟨i,rows,v,vc,ic,q,n+32⟩), ?_,by simp,⟨i,rows,v,vc,ic,q,n+32⟩,rfl,by simp only;omega,⟨hi,hl,hr,hc⟩⟩;simp only[pI,rW,rV];simp (maxSteps:=9^9) [az.l0,hlt2]
theorem az.bg(h:az.k M){R:List (List T)}(hR:Bytes R):
  ∃rows:List (List T),rows.length=12∧(∀r∈rows,∃x:Nat,x<10000∧r=[I x])∧run M 40 [.c (.sl false 1 R)] []=some (.c (.sl true 1 rows),[]):=by
 obtain⟨h0,k1,k2,k3⟩:=h;obtain⟨q0,h1⟩:=aF.bg k1 hR;obtain⟨x,ic,q,hx,hic,h2⟩:=aS.bg k3 hR 0 q0 (Nat.zero_le _);obtain⟨r,hr,⟨⟨i,rows,v,vc,ic',q',n⟩,rfl,hi,hI⟩⟩:=eQ (f:=bH (run M) 13 az.l0) (pI R) (se R) (fun s=>12-s.i) (fun r=>∃s',r=(.exit 0,rW R s')∧s'.i=12∧se R s')
  (fun s hs=>pH k2 hR 13 s hs) 13 ⟨0,[],2000096,2000032,ic,q,2000144⟩ ⟨by simp,by simp,by simp,hic⟩ (by simp)
 obtain⟨_,hl,hr',_⟩:=hI;simp only at hi hl hr';refine⟨rows,by omega,hr',aP (b:=az.m) h0 ⟨13, ?_⟩⟩;have e:rows.take i=rows:=aa (by omega);have e2:i≤rows.length:=by omega
 simp only[pI,rW,rV] at hr;simp at hr;have e0:((0:Nat):Int)=0:=rfl;simp only[dx,e0] at h2;simp (maxSteps:=9^9) [cX,az.m,az.b,aq,hr,h1,h2,e,e2]
end Mx
namespace Mx
open Go
def later(t w u x:Int):Bool:=decide (u<t)||(decide (t=u)&&decide (x<w))
def sB(l:List ln):List Int:=l.map (·.gid)
end Mx
namespace Mx
attribute [simp] gg
open Go
variable {M:Nat→Option Body}
end Mx
namespace Mx
open Go
structure Good (b:qX):Prop where
 gid:1≤b.gid∧b.gid≤9999
 name:ri b.name=true
 st:mc b.time b.si=true
 next:1≤b.next∧b.next≤10000
 len:b.fg.length≤10
 gone:sP b.gone
 sI:∀g∈b.gone,1≤g∧g≤9999
 sJ:b.gone.length≤40
 sN:∀m∈b.fg,rj m=true∧m.uid<b.next∧¬m.gid∈b.gone
 sL:b.fg.Pairwise (fun a c=>a.uid<c.uid)
 sB:b.fg.Pairwise (fun a c=>a.gid≠c.gid)
structure pn (i:Nat) (b:qX):Prop where
 sA:Good b
 m:∀m∈b.fg,10≤m.gid∧m.gid≤18
 g:∀g∈b.gone,10≤g∧g≤18
 nx:b.next≤4+i
 gl:b.gone.length≤i
theorem pn.mono{i j:Nat}{b:qX}(h:pn i b)(hij:i≤j):pn j b:=⟨h.sA,h.m,h.g,by have:=h.nx;omega,by have:=h.gl;omega⟩
end Mx
namespace Mx
open Go
variable {M:Nat→Option Body}
theorem aN.bg(h:aN.k M){R:List (List T)}(hR:Bytes R)(i:Nat)(q:Int)(hi:i≤R.length)(ns:List Int)(h0:0<ns.length)(hn:ns.length≤256):
  ∃(s:Int) (i':Nat) (q':Int),s∈ns∧i'≤R.length∧run M 179 [.c (.ptr 0 0 0 0),.c (.sl false 1 (ns.map fun s=>[I s]))] [dx R i q]=some (.c (I s),[dx R i' q']):=by
 obtain⟨hm,k1⟩:=h;obtain⟨x,i1,q1,hx,hi1,h1⟩:=ar.bg k1 hR i q hi ns.length h0 (by omega);refine⟨ns[x],i1,q1,bG hx,hi1, ?_⟩;refine aP (b:=aN.m) hm ⟨0, ?_⟩;simp (maxSteps:=9^9) [cX,aN.m,aN.b,aq,h1,hx]
theorem bl.bg(h:bl.k M){R:List (List T)}(hR:Bytes R)(i:Nat)(q:Int)(hi:i≤R.length)(n:Nat)(h0:0<n)(hn:n≤256):
  ∃(s:Bool) (i':Nat) (q':Int),i'≤R.length∧run M 175 [.c (.ptr 0 0 0 0),.c (I n)] [dx R i q]=some (.c (.bool s),[dx R i' q']):=by
 obtain⟨hm,k1⟩:=h;obtain⟨x,i1,q1,hx,hi1,h1⟩:=ar.bg k1 hR i q hi n h0 (by omega);refine⟨decide (x=0),i1,q1,hi1, ?_⟩;refine aP (b:=bl.m) hm ⟨0, ?_⟩;simp (maxSteps:=9^9) [cX,bl.m,bl.b,aq,h1]
deriving instance DecidableEq for rD
deriving instance DecidableEq for ln
deriving instance DecidableEq for qX
def pD(l:List Int)(i:Nat)(x:Nat):St:={t:=[(0,.c (ints l)),(1,.c (ints l)),(5,.c (I i))],o:=[],n:=x}
def q9(l:List Int)(x:Nat):St:={t:=[(0,.c (ints l)),(1,.c (ints l)),(5,.c (I l.length)),(14,.c (.bool false))],o:=[],n:=x}
theorem aT.self(h:aT.k M)(l:List Int)(hl:l.length≤1048576):run M 158 [.c (ints l),.c (ints l)] []=some (.c (.bool true),[]):=by
 refine aP (b:=aT.m) h ⟨l.length+1, ?_⟩;obtain⟨g,hr⟩:=dq (f:=bH (run M) (l.length+1) aT.l0) l.length (pD l) 0 (q9 l)
  (fun i hi x=>by
   have e3:=cZ (i:=i) (by omega);have e8:=fj l;have e9:(cF l)[i]'(by rw[e8];exact hi)=[I l[i]]:=by simp[cF]
   simp only[pD,ints];generalize cF l=r at*;simp (maxSteps:=9^9) [aT.l0,aq,hi,e3,e8,e9])
  (fun x=>by
   have e8:=fj l;simp only[pD,q9,ints];generalize cF l=r at*;simp (maxSteps:=9^9) [aT.l0,aq,e8])
 have e8:=fj l;simp only[pD,q9,ints] at hr ⊢;generalize cF l=r at*;simp at hr;simp (maxSteps:=9^9) [cX,aT.m,aT.b,aq,hr,e8]
theorem cn.bg(h:cn.k M)(R:List (List T))(hl:R.length≤9223372036854775807):run M 36 [.c (.sl false 1 R)] []=some (.c (.bool (decide (1048576<R.length))),[]):=by
 refine aP (b:=cn.m) h ⟨0, ?_⟩;simp (maxSteps:=9^9) [cX,cn.m,cn.b,aq];omega
def bt(l:List Range)(n:Int):Nat→Int→List Int
 |0,_=>[]
 |d+1,i=>if i≤n∧i≤100 then(if dQ l i n then [i] else [])++bt l n d (i+1) else []
def bz(l:List Range)(n:Int):List Int:=bt l n 100 1
theorem eO(l:List Range)(n:Int):∀(d:Nat) (i:Int),(bt l n d i).length≤d
 |0,_=>by simp[bt]
 |d+1,i=>by
  have:=eO l n d (i+1);simp only[bt];split
  ·split<;>simp<;>omega
  ·simp
def eK(l:List Range)(n:Int)(s:Nat×List Int)(x:Nat×Nat):St:={t:=[(0,.c (bO l)),(1,.c (I n)),(5,.c (.row 7 x.1 0 s.2.length)),(6,.c (I s.1))],o:=[(7,⟨x.1,1,true,false,cF s.2⟩)],n:=x.2}
def qP(s:Nat×List Int):Prop:=1≤s.1∧s.1≤101∧s.2.length<s.1
theorem aZ.bg(h:aZ.k M)(l:List Range)(n:Int)(hl:l.length≤1048576):run M 323 [.c (bO l),.c (I n)] []=some (.c (.sl true 1 (cF (bz l n))),[]):=by
 refine aP (b:=aZ.m) h.1 ⟨102, ?_⟩;obtain⟨g,hr⟩:=fh (f:=bH (run M) 102 aZ.l0) (eK l n) qP (fun s=>101-s.1) (fun s=>s.2++bt l n (101-s.1) s.1)
  (fun q (m:Nat×Nat×Nat)=>(.exit 0,{t:=[(0,.c (bO l)),(1,.c (I n)),(5,.c (.row 7 m.1 0 q.length)),(6,.c (I m.2.1)),(14,.c (.bool false))],o:=[(7,⟨m.1,1,true,false,cF q⟩)],n:=m.2.2}))
  (by
   rintro ⟨i,acc⟩ ⟨v,x⟩ ⟨h1,h2,h3⟩;simp only at h1 h2 h3;by_cases hn:(i:Int)≤n
   ·by_cases hm:(i:Int)≤100
    ·have e5:=cZ (i:=i) (by omega);have hs:=aM.bg h.2 l i n hl;have hd:101-i=(101-(i+1))+1:=by omega
     have hp:bt l n (101-i) i=(if dQ l i n then [(i:Int)] else [])++bt l n (101-(i+1)) ((i+1:Nat):Int):=by
      rw[hd,bt,if_pos ⟨hn,hm⟩];rfl
     left;cases hb:dQ l i n with
     |true=>
      rw[hb] at hs;obtain⟨y,hy⟩:∃y,bH (run M) 102 aZ.l0 (eK l n (i,acc) (v,x))=some (.normal,eK l n (i+1,acc++[(i:Int)]) y):=by
       have e9:acc.length+1≤4294967296:=by omega
       have e10:[[I (i:Int)]]=cF [(i:Int)]:=rfl;simp only[eY];simp[eK,aZ.l0,hn,hm,hs,e5,e9,e10,aa]
      refine⟨(i+1,acc++[(i:Int)]),y,hy,⟨by simp only;omega,by simp only;omega,by simp only[a_,jq];omega⟩,by simp only;omega, ?_⟩;simp only[hp,hb,if_true,bh]
     |false=>
      rw[hb] at hs;obtain⟨y,hy⟩:∃y,bH (run M) 102 aZ.l0 (eK l n (i,acc) (v,x))=some (.normal,eK l n (i+1,acc) y):=by
       simp only[eY];simp[eK,aZ.l0,hn,hm,hs,e5]
      refine⟨(i+1,acc),y,hy,⟨by simp only;omega,by simp only;omega,by simp only;omega⟩,by simp only;omega, ?_⟩;simp only[hp,hb,av,if_false,b9]
    ·have hp:bt l n (101-i) i=[]:=by
      have:101-i=0:=by omega
      rw[this,bt]
     right;refine⟨(v,i,x+112), ?_,by simp⟩;simp only[hp,b_];simp[eK,aZ.l0,hn,hm]
   ·have hp:bt l n (101-i) i=[]:=by
     cases hd:101-i with
     |zero=>rfl
     |succ d=>rw[bt,if_neg (fun h=>hn h.1)]
    right;refine⟨(v,i,x+112), ?_,by simp⟩;simp only[hp,b_];simp[eK,aZ.l0,hn])
  102 (1,[]) ⟨by simp,by simp,by simp⟩ (by simp)
 simp only[b9] at hr;have hpk:bt l n 100 1=bz l n:=rfl;simp[eK,bO,hpk] at hr;simp[cX,aZ.m,aZ.b,aq,bO,hr]
theorem a6.bg(h:a6.k M)(l:List Range)(n:Int)(hl:l.length≤1048576):run M 344 [.c (bO l),.c (I n)] []=some (.c (.sl true 1 (cF (bz l n))),[]):=by
 refine aP (b:=a6.m) h.1 ⟨102, ?_⟩;obtain⟨g,hr⟩:=fh (f:=bH (run M) 102 a6.l0) (eK l n) qP (fun s=>101-s.1) (fun s=>s.2++bt l n (101-s.1) s.1)
  (fun q (m:Nat×Nat×Nat)=>(.exit 0,{t:=[(0,.c (bO l)),(1,.c (I n)),(5,.c (.row 7 m.1 0 q.length)),(6,.c (I m.2.1)),(11,.c (.bool false))],o:=[(7,⟨m.1,1,true,false,cF q⟩)],n:=m.2.2}))
  (by
   rintro ⟨i,acc⟩ ⟨v,x⟩ ⟨h1,h2,h3⟩;simp only at h1 h2 h3;by_cases hb2:(i:Int)≤n∧(i:Int)≤100
   ·obtain⟨hn,hm⟩:=hb2;have e5:=cZ (i:=i) (by omega);have hq:(i:Int)≤(if 100<n then 100 else n):=by split<;>omega
    have hs:=aH.bg h.2 l i n hl;have hd:101-i=(101-(i+1))+1:=by omega
    have hp:bt l n (101-i) i=(if dQ l i n then [(i:Int)] else [])++bt l n (101-(i+1)) ((i+1:Nat):Int):=by
     rw[hd,bt,if_pos ⟨hn,hm⟩];rfl
    left;cases hb:dQ l i n with
    |true=>
     rw[hb] at hs;obtain⟨y,hy⟩:∃y,bH (run M) 102 a6.l0 (eK l n (i,acc) (v,x))=some (.normal,eK l n (i+1,acc++[(i:Int)]) y):=by
      have e9:acc.length+1≤4294967296:=by omega
      have e10:[[I (i:Int)]]=cF [(i:Int)]:=rfl;simp only[eY];simp[eK,a6.l0,hq,hs,e5,e9,e10,aa]
     refine⟨(i+1,acc++[(i:Int)]),y,hy,⟨by simp only;omega,by simp only;omega,by simp only[a_,jq];omega⟩,by simp only;omega, ?_⟩;simp only[hp,hb,if_true,bh]
    |false=>
     rw[hb] at hs;obtain⟨y,hy⟩:∃y,bH (run M) 102 a6.l0 (eK l n (i,acc) (v,x))=some (.normal,eK l n (i+1,acc) y):=by
      simp only[eY];simp[eK,a6.l0,hq,hs,e5]
     refine⟨(i+1,acc),y,hy,⟨by simp only;omega,by simp only;omega,by simp only;omega⟩,by simp only;omega, ?_⟩;simp only[hp,hb,av,if_false,b9]
   ·have hq:¬(i:Int)≤(if 100<n then 100 else n):=by split<;>omega
    have hp:bt l n (101-i) i=[]:=by
     cases hd:101-i with
     |zero=>rfl
     |succ d=>rw[bt,if_neg hb2]
    right;refine⟨(v,i,x+64), ?_,by simp⟩;simp only[hp,b_];simp[eK,a6.l0,hq])
  102 (1,[]) ⟨by simp,by simp,by simp⟩ (by simp)
 simp only[b9] at hr;have hpk:bt l n 100 1=bz l n:=rfl;simp[eK,bO,hpk] at hr;simp[cX,a6.m,a6.b,aq,bO,hr]
end Mx
namespace Mx
open Go
attribute [-simp] bH step ec dh gj gI bS
variable {M:Nat→Option Body}
structure rO where
 l:List Range
 i:Nat
 ic:Nat
 q:Int
 v:Nat
 n:Nat
def rL(R:List (List T))(s:rO):List (Nat×Ob):=[dx R s.ic s.q,(7,⟨s.v,2,true,false,rows s.l⟩)]
def rK(s:rO):List (Nat×V):=[(0,.c (.ptr 0 0 0 0)),(3,.c (.row 7 s.v 0 s.i)),(4,.c (I s.i))]
def m7(R:List (List T))(s:rO):St:={t:=rK s,o:=rL R s,n:=s.n}
def rZ(R:List (List T))(s:rO):St:={t:=rK s++[(12,.c (.bool false))],o:=rL R s,n:=s.n}
structure rP (R:List (List T)) (s:rO):Prop where
 i:s.i≤4
 l:s.l.length=s.i
 c:s.ic≤R.length
 g:∀r∈s.l,ew r
def n9:List Int:=[1,2,3,9,0,9999]
def n_:List Int:=[1,2,5,0,7]
theorem pQ(kb:ar.k M)(ko:bl.k M)(kp:aN.k M){R:List (List T)}(hR:Bytes R)(k:Nat)(s:rO)(hs:rP R s):
  (∃s',bH (run M) k aB.l0 (m7 R s)=some (.normal,m7 R s')∧rP R s'∧4-s'.i<4-s.i)∨
   (∃r,bH (run M) k aB.l0 (m7 R s)=some r∧r.1≠.normal∧∃s',r=(.exit 0,rZ R s')∧0<s'.i∧rP R s'):=by
 obtain⟨l,i,ic,q,v,n⟩:=s;obtain⟨hi,hl,hic,hg⟩:=hs;simp only at hi hl hic hg;obtain⟨z,ic1,q1,hz,hic1,g1⟩:=ar.bg kb hR ic q hic 4 (by omega) (by omega);have e1:IntKind.i64.wrap (1+(z:Int))=1+(z:Int):=wrap_i64 (by omega) (by omega);have er:(rows l).length=i:=by rw[cC,hl]
 have et:(rows l).take i=rows l:=aa (by omega);by_cases c0:i<1+z
 ·left;have e4:=cZ (i:=i) (by omega);have c1:(i:Int)<1+(z:Int):=by omega
  have e5:i+1≤4294967296:=by omega
  obtain⟨a,ic2,q2,ha,hic2,g2⟩:=aN.bg kp hR ic1 q1 hic1 n9 (by decide) (by decide);obtain⟨b,ic3,q3,hb,hic3,g3⟩:=aN.bg kp hR ic2 q2 hic2 n_ (by decide) (by decide);obtain⟨o,ic4,q4,hic4,g4⟩:=bl.bg ko hR ic3 q3 hic3 2 (by omega) (by omega);have ha2:0≤a∧a≤9999:=by
   have:∀x∈n9,0≤x∧x≤9999:=by decide
   exact this a ha
  have hb2:0≤b∧b≤9999:=by
   have:∀x∈n_,0≤x∧x≤9999:=by decide
   exact this b hb
  have fin:∀y:Range,ew y→(∃v' n',bH (run M) k aB.l0 (m7 R ⟨l,i,ic,q,v,n⟩)=some (.normal,m7 R ⟨l++[y],i+1,ic4,q4,v',n'⟩))→
    (∃s',bH (run M) k aB.l0 (m7 R ⟨l,i,ic,q,v,n⟩)=some (.normal,m7 R s')∧rP R s'∧4-s'.i<4-i):=by
   rintro y hy ⟨v',n',hh⟩;refine⟨_,hh,⟨by simp only;omega,by simp[hl],hic4,fun x hx=> ?_⟩,by simp only;omega⟩;rcases List.mem_append.1 hx with w|w
   ·exact hg x w
   ·rw[List.mem_singleton.1 w];exact hy
  have hrow:∀y:Range,rows (l++[y])=rows l++[[I y.a,I y.b]]:=fun y=>by simp[rows,b8]
  simp only[cy,dx,n9,n_,aY,bX] at g1 g2 g3 g4;cases o with
  |true=>
   refine fin ⟨a,a⟩ ⟨ha2,ha2⟩ ?_;simp only[m7,rK,rL,hrow,dx];generalize rows l=rl at*;simp (maxSteps:=9^9) [aB.l0,ax,aa,setAt,aj,g1,g2,g3,g4,e1,e4,e5,c1,er,et]
  |false=>
   refine fin ⟨a,b⟩ ⟨ha2,hb2⟩ ?_;simp only[m7,rK,rL,hrow,dx];generalize rows l=rl at*;simp (maxSteps:=9^9) [aB.l0,ax,aa,setAt,aj,g1,g2,g3,g4,e1,e4,e5,c1,er,et]
 ·right;have c1:¬(i:Int)<1+(z:Int):=by omega
  have hh:∃n',bH (run M) k aB.l0 (m7 R ⟨l,i,ic,q,v,n⟩)=some (.exit 0,rZ R ⟨l,i,ic1,q1,v,n'⟩):=by
   simp only[cy,dx] at g1;simp only[m7,rZ,rK,rL,dx];simp (maxSteps:=9^9) [aB.l0,ax,aa,setAt,aj,g1,e1,c1]
  obtain⟨n',hh⟩:=hh;exact⟨_,hh,by simp,_,rfl,by simp only;omega,⟨hi,hl,hic1,hg⟩⟩
theorem aB.bg(h:aB.k M){R:List (List T)}(hR:Bytes R)(i:Nat)(q:Int)(hi:i≤R.length):
  ∃(l:List Range) (i':Nat) (q':Int),l≠[]∧l.length≤4∧(∀r∈l,ew r)∧i'≤R.length∧run M 536 [.c (.ptr 0 0 0 0)] [dx R i q]=some (.c (.sl true 2 (rows l)),[dx R i' q']):=by
 obtain⟨h0,kb,ko,kp⟩:=h;obtain⟨r,hr,⟨⟨l,j,ic,q1,v,n⟩,rfl,hj,hI⟩⟩:=eQ (f:=bH (run M) 5 aB.l0) (m7 R) (rP R) (fun s=>4-s.i) (fun r=>∃s',r=(.exit 0,rZ R s')∧0<s'.i∧rP R s')
  (fun s hs=>pQ kb ko kp hR 5 s hs) 5 ⟨[],0,i,q,2000016,2000064⟩ ⟨by simp,rfl,hi,fun _ h=>absurd h (by simp)⟩ (by simp)
 obtain⟨h2,h3,h4,h5⟩:=hI;simp only at hj h2 h3 h4 h5;refine⟨l,ic,q1,fun e=>by rw[e] at h3;simp at h3;omega,by omega,h5,h4,aP (b:=aB.m) h0 ⟨5, ?_⟩⟩;have er:(rows l).length=j:=by rw[cC,h3]
 have et:(rows l).take j=rows l:=aa (by omega);have e0:((0:Nat):Int)=0:=rfl;have ern:rows []=[]:=rfl;simp only[m7,rZ,rK,rL,ern,e0,dx] at hr ⊢;generalize rows l=rl at*;simp (maxSteps:=9^9) [cX,aB.m,aB.b,ax,aa,setAt,aj,hr,er,et]
theorem bD.bg(h:bD.k M){R:List (List T)}(hR:Bytes R):
  ∃l:List Range,l≠[]∧l.length≤4∧(∀r∈l,ew r)∧run M 528 [.c (.sl false 1 R)] []=some (.c (.sl true 2 (rows l)),[]):=by
 obtain⟨h0,k1,ks⟩:=h;obtain⟨q0,h1⟩:=aF.bg k1 hR;obtain⟨l,i1,q1,a1,a2,a3,_,h2⟩:=aB.bg ks hR 0 q0 (Nat.zero_le _);refine⟨l,a1,a2,a3,aP (b:=bD.m) h0 ⟨0, ?_⟩⟩;have e0:((0:Nat):Int)=0:=rfl;simp only[dx,e0] at h1 h2;generalize rows l=rl at*;simp (maxSteps:=9^9) [cX,bD.m,bD.b,ax,aa,setAt,aj,h1,h2,aa]
def jX:List (List UInt8):=[[],[49,44],[44,49],[48],[49,58],[49,58,50,58,51],[42],[42,58,49],[49,48,48,48,48],[97],[49,44,50,44,51,44,52,44,53,44,54,44,55,44,56,44,57],[48,48,55]]
theorem aK.bg(h:aK.k M){R:List (List T)}(hR:Bytes R):
  ∃u:List UInt8,u.length≤1048576∧run M 531 [.c (.sl false 1 R)] []=some (.c (S u),[]):=by
 obtain⟨h0,k1,ko,kp,kt,ks⟩:=h;obtain⟨q0,h1⟩:=aF.bg k1 hR;obtain⟨b,i1,q1,hi1,h2⟩:=bl.bg ko hR 0 q0 (Nat.zero_le _) 4 (by omega) (by omega);have e0:((0:Nat):Int)=0:=rfl;simp only[cy] at h2;cases b with
 |true=>
  obtain⟨s,i2,q2,hs,hi2,h3⟩:=bC.bg kp hR i1 q1 hi1 jX (by decide) (by decide);have hle:∀s∈jX,s.length≤1048576:=by decide
  refine⟨s,hle s hs,aP (b:=aK.m) h0 ⟨0, ?_⟩⟩;simp only[dx,e0,jX,aY,bX] at h1 h2 h3;simp (maxSteps:=9^9) [cX,aK.m,aK.b,ax,aa,setAt,aj,h1,h2,h3]
 |false=>
  obtain⟨l,i2,q2,a1,a2,a3,hi2,h3⟩:=aB.bg ks hR i1 q1 hi1;have h4:=aL.bg kt l (by omega) a3;have hle:=fu a3;refine⟨bT l,by omega,aP (b:=aK.m) h0 ⟨0, ?_⟩⟩;simp only[dx,e0,bO] at h1 h2 h3 h4;generalize rows l=rl at*;simp (maxSteps:=9^9) [cX,aK.m,aK.b,ax,aa,setAt,aj,h1,h2,h3,h4]
theorem bn.bg(h:bn.k M){R:List (List T)}(hR:Bytes R):
  ∃(l:List Range) (n m:Int),l.length≤4∧run M 532 [.c (.sl false 1 R)] []=some (.fW [.c (.sl true 2 (rows l)),.c (I n),.c (I m)],[]):=by
 obtain⟨h0,k1,kb,ks⟩:=h;obtain⟨q0,h1⟩:=aF.bg k1 hR;obtain⟨x,i1,q1,hx,hi1,h2⟩:=ar.bg kb hR 0 q0 (Nat.zero_le _) 12 (by omega) (by omega);obtain⟨y,i2,q2,hy,hi2,h3⟩:=ar.bg kb hR i1 q1 hi1 10 (by omega) (by omega);obtain⟨l,i3,q3,a1,a2,a3,hi3,h4⟩:=aB.bg ks hR i2 q2 hi2;have e0:((0:Nat):Int)=0:=rfl;have e1:IntKind.i64.wrap ((x:Int)-1)=(x:Int)-1:=wrap_i64 (by omega) (by omega);refine⟨l,(x:Int)-1,y,a2,aP (b:=bn.m) h0 ⟨0, ?_⟩⟩;simp only[dx,e0,cy] at h1 h2 h3 h4;generalize rows l=rl at*;simp (maxSteps:=9^9) [cX,bn.m,bn.b,ax,aa,setAt,aj,h1,h2,h3,h4,e1,aa]
theorem bc.bg(h:bc.k M){R:List (List T)}(hR:Bytes R):
  ∃(l:List Range) (n:Int),l.length≤4∧(∀r∈l,ew r)∧run M 533 [.c (.sl false 1 R)] []=some (.fW [.c (.sl true 2 (rows l)),.c (I n)],[]):=by
 obtain⟨h0,k1,kp,ks⟩:=h;obtain⟨q0,h1⟩:=aF.bg k1 hR;obtain⟨x,i1,q1,hx,hi1,h2⟩:=aN.bg kp hR 0 q0 (Nat.zero_le _) [0,3,9,100,101,-1,9223372036854775807] (by decide) (by decide);obtain⟨l,i3,q3,a1,a2,a3,hi3,h4⟩:=aB.bg ks hR i1 q1 hi1;have e0:((0:Nat):Int)=0:=rfl;refine⟨l,x,a2,a3,aP (b:=bc.m) h0 ⟨0, ?_⟩⟩;simp only[dx,e0,aY,bX] at h1 h2 h4;generalize rows l=rl at*;simp (maxSteps:=9^9) [cX,bc.m,bc.b,ax,aa,setAt,aj,h1,h2,h4,aa]
def sj(l:List Range)(i:Nat)(x:Nat):St:={t:=[(0,.c (bO l)),(1,.c (bO l)),(5,.c (I i))],o:=[],n:=x}
theorem eZ(h:aR.k M)(l:List Range)(hl:l.length≤1048576):run M 534 [.c (bO l),.c (bO l)] []=some (.c (.bool true),[]):=by
 have er:=cC l;obtain⟨g,hr⟩:=dq (f:=bH (run M) (l.length+1) aR.l0) l.length (sj l) 0 (fun x=>{t:=[(0,.c (bO l)),(1,.c (bO l)),(5,.c (I l.length)),(14,.c (.bool false))],o:=[],n:=x})
  (fun i hi x=>by
   have e5:=cZ (i:=i) (by omega);have a1:∀hh:i<(rows l).length,(rows l)[i]'hh=[I l[i].a,I l[i].b]:=fun hh=>ft l i hh
   have hi2:(i:Int)<l.length:=by omega
   simp only[sj,bO];generalize l[i]=t at*;obtain⟨a,b⟩:=t;simp only at a1;generalize rows l=rt at*;simp (maxSteps:=9^9) [aR.l0,ax,aa,setAt,aj,a1,er,hi,hi2,e5])
  (fun x=>by
   simp only[sj,bO];generalize rows l=rt at*;simp (maxSteps:=9^9) [aR.l0,ax,aa,setAt,aj,er])
 refine aP (b:=aR.m) h ⟨l.length+1, ?_⟩;have e0:((0:Nat):Int)=0:=rfl;simp only[sj,bO,e0] at hr ⊢;generalize rows l=rt at*;simp (maxSteps:=9^9) [cX,aR.m,aR.b,ax,aa,setAt,aj,hr,er]
theorem mZ{l:List Range}{n:Int}{d:Nat}{i:Int}(h1:i≤n)(h2:i≤100):bt l n (d+1) i=(if dQ l i n=true then [i] else [])++bt l n d (i+1):=by
 rw[bt,if_pos ⟨h1,h2⟩]
def nf(R:List (List T))(l x:List Range)(b:Bool)(z:Nat)(p:List Int)(s:Nat×Nat×Nat):St:=
 {t:=[(0,.c (.sl false 1 R)),(3,.c (bO l)),(5,.c (bO x)),(6,.c (.bool b)),(7,.c (I z)),(8,.c (ints p)),(9,.c (I s.2.1)),(10,.c (I s.1))],o:=[],n:=s.2.2}
def r6(R:List (List T))(l x:List Range)(b:Bool)(z:Nat)(p:List Int)(s:Nat×Nat×Nat):St:=
 {t:=[(0,.c (.sl false 1 R)),(3,.c (bO l)),(5,.c (bO x)),(6,.c (.bool b)),(7,.c (I z)),(8,.c (ints p)),(9,.c (I s.2.1)),(10,.c (I s.1)),(42,.c (.bool false))],o:=[],n:=s.2.2}
def sC(l:List Range)(z:Nat)(s:Nat×Nat×Nat):Prop:=1≤s.1∧s.1≤z+1∧∃acc,bz l z=acc++bt l z (101-s.1) s.1∧acc.length=s.2.1
theorem pZ(ki:aH.k M)(k:Nat)(R:List (List T))(l x:List Range)(b:Bool)(z:Nat)(hz:z<12)(hl:l.length≤4)(s:Nat×Nat×Nat)(hs:sC l z s):
  (∃s',bH (run M) k aC.l0 (nf R l x b z (bz l z) s)=some (.normal,nf R l x b z (bz l z) s')∧sC l z s'∧20-s'.1<20-s.1)∨
   (∃r,bH (run M) k aC.l0 (nf R l x b z (bz l z) s)=some r∧r.1≠.normal∧∃s',r=(.exit 0,r6 R l x b z (bz l z) s')∧s'.2.1=(bz l z).length):=by
 obtain⟨i,c,n⟩:=s;obtain⟨h1,h2,acc,h3,h4⟩:=hs;simp only at h1 h2 h3 h4;have hpl:=eO l z 100 1;have hpl2:(bz l z).length≤100:=hpl;by_cases c0:i≤z
 ·left;have c1:(i:Int)≤z:=by omega
  have e1:=cZ (i:=i) (by omega);have e2:=cZ (i:=c) (by have:=congrArg List.length h3;rw[a_] at this;omega);have g1:=aH.bg ki l i z (by omega);obtain⟨d,hd⟩:∃d,101-i=d+1:=⟨100-i,by omega⟩
  have hd2:101-(i+1)=d:=by omega
  rw[hd,mZ c1 (by omega)] at h3;have e7:((i+1:Nat):Int)=(i:Int)+1:=by omega
  cases q:dQ l i z with
  |true=>
   rw[q] at g1 h3;simp only[if_true] at h3;have hc:c<(bz l z).length:=by rw[h3];simp;omega
   have hget:(bz l z)[c]'hc=(i:Int):=by
    have:(bz l z)[c]? =some (i:Int):=by rw[h3,←h4];simp
    rw[cg hc] at this;exact Option.some.inj this
   suffices hh:∃n',bH (run M) k aC.l0 (nf R l x b z (bz l z) (i,c,n))=some (.normal,nf R l x b z (bz l z) (i+1,c+1,n')) by
    obtain⟨n',hh⟩:=hh;refine⟨_,hh,⟨by simp only;omega,by simp only;omega,acc++[(i:Int)], ?_,by simp[h4]⟩,by simp only;omega⟩;simp only[hd2,e7];rw[h3];simp
   have ha:∀hh:c<(cF (bz l z)).length,(cF (bz l z))[c]'hh=[I (i:Int)]:=fun hh=>by rw[mq];rw[hget]
   have hil:=ja (bz l z);have c2:¬((bz l z).length:Int)≤c:=by omega
   clear hget hpl2 hpl h3;simp only[nf,bO,ints] at g1 ⊢;generalize cF (bz l z)=rp at*;generalize (bz l z).length=pl at*;generalize rows l=rl at*;generalize rows x=rx at*;simp (maxSteps:=9^9) [aC.l0,ax,aa,setAt,aj,g1,c0,c1,e1,e2,ha,hil,hc,c2]
  |false=>
   rw[q] at g1 h3;simp only[av,if_false,b9] at h3;suffices hh:∃n',bH (run M) k aC.l0 (nf R l x b z (bz l z) (i,c,n))=some (.normal,nf R l x b z (bz l z) (i+1,c,n')) by
    obtain⟨n',hh⟩:=hh;refine⟨_,hh,⟨by simp only;omega,by simp only;omega,acc, ?_,h4⟩,by simp only;omega⟩;simp only[hd2,e7];exact h3
   simp only[nf,bO,ints] at g1 ⊢;generalize cF (bz l z)=rp at*;generalize rows l=rl at*;generalize rows x=rx at*;simp (maxSteps:=9^9) [aC.l0,ax,aa,setAt,aj,g1,c0,c1,e1]
 ·right;have c1:¬(i:Int)≤z:=by omega
  have hend:bt l z (101-i) i=[]:=by
   cases hd:101-i with
   |zero=>rfl
   |succ d=>rw[bt,if_neg (fun w=>c1 w.1)]
  rw[hend,b_] at h3;suffices hh:∃n',bH (run M) k aC.l0 (nf R l x b z (bz l z) (i,c,n))=some (.exit 0,r6 R l x b z (bz l z) (i,c,n')) by
   obtain⟨n',hh⟩:=hh;exact⟨_,hh,by simp,_,rfl,by simp only;rw[h3,h4]⟩
  simp only[nf,r6,bO,ints];generalize cF (bz l z)=rp at*;generalize rows l=rl at*;generalize rows x=rx at*;simp (maxSteps:=9^9) [aC.l0,ax,aa,setAt,aj,c0,c1]
theorem aC.bg(h:aC.k M)(R:List (List T))(hl:R.length≤9223372036854775807)(hr:∀(i:Nat) (r:List T),R[i]? =some r→∃n:Int,r=[.int .u8 n]):
  run M 527 [.c (.sl false 1 R)] []=some (.c (.bool true),[]):=by
 obtain⟨h0,kbig,kdp,ksi,ksr,ksp,ksin,kii,kip,kds,kit,kir,kdr,kdi,kdk,ksm,kst⟩:=h;have hbig:=cn.bg kbig R hl;by_cases cb:1048576<R.length
 ·refine aP (b:=aC.m) h0 ⟨0, ?_⟩;rw[decide_eq_true cb] at hbig;simp (maxSteps:=9^9) [cX,aC.m,aC.b,ax,aa,setAt,aj,hbig]
 rw[decide_eq_false cb] at hbig;have hR:Bytes R:=⟨by omega,hr⟩;obtain⟨l,l0,l1,l2,h1⟩:=bD.bg kds hR;have h2:=aQ.bg kit l (by omega) l2;have hle:=fu l2;have h3:=ao.bg kir (bT l) (by omega);rw[j6 l0 l2 (by omega)] at h3;obtain⟨pr,hrl,hrr,h4⟩:=az.bg kdp hR;obtain⟨x,hx,hx2⟩:=hrr pr[0] (bG (by omega));obtain⟨z,hz,ez⟩:=fJ x 12 (by omega);simp only[cy] at ez;have a1:∀hh:0<pr.length,pr[0]'hh=[I x]:=fun _=>hx2
 have e4:pr.length=12:=hrl;have h5:=a6.bg kip l z (by omega);obtain⟨u,hu,h6⟩:=aK.bg kdr hR;have h7:=ao.bg kir u hu;have h8:=al.bg ksr u hu;obtain⟨c,d,e,hc,h9⟩:=bn.bg kdi hR;have h10:=aH.bg kii c d e (by omega);have h11:=aM.bg ksin c d e (by omega);obtain⟨f,m,hf,hfg,h12⟩:=bc.bg kdk hR;have h13:=a6.bg kip f m (by omega);have h14:=aZ.bg ksp f m (by omega);have hpf:=eO f m 100 1;have h15:=aT.self ksi (bz f m) (by have:(bz f m).length≤100:=hpf;omega);have h16:=aQ.bg kit f (by omega) hfg;have h17:=aL.bg kst f (by omega) hfg;have h18:=eZ ksm l (by omega);have hul:(cJ u).1.length≤1048576:=by
  have key:∀(ps:List (List UInt8)) (acc:List Range),acc.length≤8→(c7 ps acc).1.length≤8:=by
   intro ps
   induction ps with
   |nil=>intro acc h;exact h
   |cons p ps ih=>
    intro acc h;rw[c7];split
    ·simp
    ·split
     ·simp
     ·exact ih _ (by simp;omega)
  have:=key (pieces u) [] (by simp);unfold cJ;omega
 have h19:=eZ ksm (cJ u).1 hul;have ern:∀y:List Range,y.map b8=rows y:=fun _=>rfl
 rw[ern] at h3 h7 h8;obtain⟨r,hlo,⟨⟨i,k',n⟩,rfl,hk⟩⟩:=eQ (f:=bH (run M) 20 aC.l0) (nf R l l true z (bz l z)) (sC l z) (fun s=>20-s.1) (fun r=>∃s',r=(.exit 0,r6 R l l true z (bz l z) s')∧s'.2.1=(bz l z).length)
  (fun s hs=>pZ kii 20 R l l true z hz l1 s hs) 20 (1,0,2000448) ⟨Nat.le_refl _,by simp only;omega,[],rfl,rfl⟩ (by simp)
 refine aP (b:=aC.m) h0 ⟨20, ?_⟩;have e0:((0:Nat):Int)=0:=rfl;have e1:((1:Nat):Int)=1:=rfl;have hil:=ja (bz l z);simp only at hk;have hk2:(k':Int)=(bz l z).length:=by omega
 simp only[nf,r6,bO,ints,e0,e1] at hlo h2 h5 h10 h11 h13 h14 h15 h16 h17 h18 h19;have t1:(rows l).take (rows l).length=rows l:=List.take_length;generalize cJ u=ru at*;obtain⟨rx,rb⟩:=ru;simp only at h7 h8 h19;generalize (bz l z).length=pl at*;generalize cF (bz l z)=rp at*;generalize cF (bz f m)=rq at*;generalize rows l=rl at*;generalize rows rx=rrx at*;generalize rows c=rc at*;generalize rows f=rf at*;generalize bT l=tl at*;generalize bT f=tf at*;generalize dQ c d e=ib at*;cases rb<;>cases ib<;>simp (maxSteps:=9^9) [cX,aC.m,aC.b,ax,aa,setAt,aj,hbig,h1,h2,h3,h4,h5,h6,h7,h8,h9,h10,h11,h12,h13,h14,h15,h16,h17,h18,h19,hlo,a1,e4,ez,hil,hk2,jY]
theorem aC.row(h:aC.k M){as:List V}(ha:jT [.cell (.sl [.int .u8])] as):run M 527 as []=some (.c (.bool true),[]):=by
 cases ha with|cons h0 ha=>
 cases ha;cases h0 with|cell h0=>
 cases h0 with|sl _ rows hl h1 h2=>
 refine aC.bg h rows (Nat.le_trans hl (by decide)) fun i r hr=> ?_
 have hlen:=h1 i r hr
 match r,hlen with
 |[a],_=>
  obtain⟨n,rfl⟩:=pX (h2 i 0 [a] (.int .u8) a hr rfl rfl);exact⟨n,rfl⟩
end Mx
namespace Mx
open Go Go.RowKit Go.ChangeShapes
variable {P:Program} {F:Nat→FuncId}
theorem lV:∀(n:Nat) (w:World),(w.drewN n).heap=w.heap∧(w.drewN n).os=w.os∧(w.drewN n).tape=w.tape∧(w.drewN n).output=w.output:=by
 intro n w;exact⟨rfl,rfl,rfl,rfl⟩
theorem p9{f:Nat}(hf:j_ P F f=true)(hne:F 999998≠0)
  (h:∀(s sep:ByteArray) (m:Int) (w:World),s.size<4294967281→w.cell? ⟨F 999999,0,none⟩=some (.int .i64 m)→Calls P (F f) #[.string s,.string sep] w fun e w'=>e= .returned (.tuple #[.string ⟨(Lib.cut s.data.toList sep.data.toList).1.toArray⟩,.string ⟨(Lib.cut s.data.toList sep.data.toList).2.1.toArray⟩,.bool (Lib.cut s.data.toList sep.data.toList).2.2])∧∃n,w'=w.drewN n):jU P F f k7:=by
 intro as lent res after hg;refine⟨hf,fun Pr E0 vals w En=> ?_⟩;unfold k7 at hg;split at hg
 ·rename_i s sep;split at hg
  ·rename_i hs;cases hg;have hn:=En.n;have hv:vals= #[.string s,.string sep]:=by
    have h0:=En.args 0 _ (vals[0]'(by rw[←hn];simp)) rfl (Array.getElem?_eq_getElem _);have h1:=En.args 1 _ (vals[1]'(by rw[←hn];simp)) rfl (Array.getElem?_eq_getElem _);have g0:=gf h0 (v:= .string s) rfl;have g1:=gf h1 (v:= .string sep) rfl;apply Array.ext
    ·rw[←hn];rfl
    ·intro i hi hi'
     match i,hi' with
     |0,_=>exact g0
     |1,_=>exact g1
   subst hv;rcases En.pr.2 with e|⟨_,_,m,hm⟩
   ·exact(hne e).elim
   refine(h s sep m w hs hm).mono ?_;rintro e w' ⟨rfl,n,rfl⟩;obtain⟨d1,d2,d3,d4⟩:=lV n w;refine⟨_,E0,fun _=>none,rfl,d2,d3,d4,by rw[d1];exact Nat.le_refl _,fun b _ _=>by rw[d1],fun v l h=>h,fun q b cap sz h=>(by cases h),fun q q' b cap sz cap' sz' h=>(by cases h), ?_,fun p ob ob' l h=>(by simp[get] at h)⟩;exact⟨.str _,.str _,.bool _,trivial⟩
  ·cases hg
 ·cases hg
variable {w:World} {H:Type} {enc:TypeId×Value→H}
end Mx
namespace Mx
open Go
variable {P:Program} {F:Nat→FuncId}
theorem nh{f:Nat}{te:TypeId}(hf:j_ P F f=true)(hne:F 999998≠0)
  (h:∀(s sep:ByteArray) (m:Int) (w:World),s.size<4294967281→w.cell? ⟨F 999999,0,none⟩=some (.int .i64 m)→1≤sep.size→Calls P (F f) #[.string s,.string sep] w fun e w'=>
   e= .returned (.slice (some ⟨w.heap.size,0,none⟩) (Lib.countB s sep+1) (Lib.countB s sep+1))∧w'=w.alloc (.cells ((Lib.splitB sep 0 (Lib.countB s sep) s).map Value.string).toArray te))
  (hl:∀s sep:ByteArray,1≤sep.size→(Lib.splitB sep 0 (Lib.countB s sep) s).length=Lib.countB s sep+1):jU P F f fM:=by
 intro as lent res after hg;refine⟨hf,fun Pr E0 vals w En=> ?_⟩;unfold fM at hg;split at hg
 ·rename_i s sep;split at hg
  ·rename_i hs;obtain⟨hs,h1⟩:=hs;cases hg;have hn:=En.n;have hv:vals= #[.string s,.string sep]:=by
    have h0:=En.args 0 _ (vals[0]'(by rw[←hn];simp)) rfl (Array.getElem?_eq_getElem _);have h1:=En.args 1 _ (vals[1]'(by rw[←hn];simp)) rfl (Array.getElem?_eq_getElem _);have g0:=gf h0 (v:= .string s) rfl;have g1:=gf h1 (v:= .string sep) rfl;apply Array.ext
    ·rw[←hn];rfl
    ·intro i hi hi'
     match i,hi' with
     |0,_=>exact g0
     |1,_=>exact g1
   subst hv;rcases En.pr.2 with e|⟨_,_,m,hm⟩
   ·exact(hne e).elim
   have hlen:=hl s sep h1;refine(h s sep m w hs hm h1).mono ?_;obtain⟨L,hL⟩:∃L,L=Lib.splitB sep 0 (Lib.countB s sep) s:=⟨_,rfl⟩
   rw[←hL] at hlen ⊢;rw[←hlen];rintro e w' ⟨rfl,rfl⟩;have hh:(w.alloc (.cells (L.map Value.string).toArray te)).heap=w.heap.push (.cells (L.map Value.string).toArray te):=rfl;refine⟨_,E0,fun q=>if q=0 then some (.cK w.heap.size L.length 1) else none,rfl,rfl,rfl,rfl,by rw[hh];simp,fun b hb _=>by rw[hh,Array.getElem?_push,if_neg (by omega)],fun v l h=>h,fun q b cap sz h=> ?_,fun q q' b cap sz cap' sz' h h'=> ?_, ?_,fun p ob ob' l h=>(by simp[get] at h)⟩
   ·split at h
    ·cases h;exact⟨.inl (Nat.le_refl _),by rw[hh];simp⟩
    ·cases h
   ·split at h
    ·split at h'
     ·omega
     ·cases h'
    ·cases h
   ·have key:fU (rx F Pr E0 [] E0 (fun q=>if q=0 then some (.cK w.heap.size L.length 1) else none) (w.alloc (.cells (L.map Value.string).toArray te))) (fun q=>if q=0 then some (.cK w.heap.size L.length 1) else none) [] 0 (.sl true 1 (L.map fun x=>[T.str x])) (og (.cK w.heap.size L.length 1) (L.map fun x=>[T.str x]).length):=by
     refine .own 1 _ (.cK w.heap.size L.length 1) (by simp) ⟨rfl,by simp,fun i r h=> ?_,fun _ i j r t h k=> ?_,(L.map Value.string).toArray,te,(0,0), ?_,by simp,fun o _ c=>by omega,fun i j r t h k=> ?_⟩
     ·simp only[bJ,ab] at h;obtain⟨x,_,rfl⟩:=h;rfl
     ·simp only[bJ,ab] at h;obtain⟨x,_,rfl⟩:=h
      match j,k with
      |0,k=>cases k;exact .str x
     ·show (w.heap.push _)[w.heap.size]? =_;exact Array.getElem?_push_size
     ·simp only[bJ,ab] at h;obtain⟨x,hx,rfl⟩:=h
      match j,k with
      |0,k=>
       cases k;exact⟨.string x,by simp[hx],.str x⟩
    have hsz:(L.map fun x=>[T.str x]).length=L.length:=by simp
    rw[hsz] at key;exact key
  ·cases hg
 ·cases hg
end Mx
namespace Mx
open Go Go.RowKit Go.ChangeShapes
variable {P:Program} {F:Nat→FuncId} {w:World} {H:Type} {enc:TypeId×Value→H}
theorem gk{a:Assume}{C:Checked}{os:Os}{f:FuncId}{fn:Func}{s:ChangeSpec}{conds:List PathCond}{apart fresh handsOn again:Bool}{X:World→Array Value→Prop}
  (own:ownKnob C.prog.godebug=none) (started:os.Started) (noInit:C.prog.inits.idxOf? f=none) (hfn:C.prog.funcs[f]? =some fn)
  (witness:∃(w:World) (tape:Tape) (i:Input),w.os=os∧(w.forCall tape i).Shaped C.prog∧i.vars=[]∧Input.okWide C.prog (w.forCall tape i) .any w.heap.size f i∧
   ((s.pre enc C.prog fn conds apart (w.forCall tape i).memory i.args∧X (w.forCall tape i).memory i.args)∧sizedMet enc C.prog fn (OpenSpec.ofChange s) apart (w.forCall tape i).memory i.args)∧a.holds C.prog (lone (Frame.enter C.prog f i.args .normal) [] (w.forCall tape i)))
  (contract:∀(W:World) (base:Nat) (args:Array Value) (ds gs:List (DataW H)) (before:List MemPlace),
   (∀(j:Nat) t v,fn.params[j]? =some t→args[j]? =some v→Value.okWide C.prog W .any base t v)→
   DataW.Whole enc C.prog fn.params.toList s.vars apart W args.toList ds gs before→
   conds.all (PathCond.test C.prog ⟨fn.params.toList,ds,s.plain.varTypes C.prog,gs⟩)=true→
   (DataW.weightsEach C.prog (fn.params.toList++s.plain.varTypes C.prog) (ds++gs)).all (·≤reachBytes)=true→
   W.ShapedOpen C.prog→
   a.holds C.prog (lone (Frame.enter C.prog f args .normal) [] W)→
   Calls C.prog f args W fun e W'=>∃v,e= .returned v∧s.post enc C.prog fn apart fresh handsOn again W args v W'):
  ReturnsInHanded a C os f .any (fun w args=>(s.pre enc C.prog fn conds apart w args∧X w args)∧sizedMet enc C.prog fn (OpenSpec.ofChange s) apart w args) (s.post enc C.prog fn apart fresh handsOn again):=by
 refine returnsInHanded_of_calls own started noInit witness ?_;intro w tape i _ hsh _ hok hpre hholds;obtain⟨_,_,_,fn',hfn',_,_,_,_,hval⟩:=hok;have e:fn'=fn:=Option.some.inj (hfn'.symm.trans hfn);subst e;obtain⟨⟨⟨ds,gs,before,hw,hc⟩,hx⟩,hz⟩:=hpre;have hw':=DataW.Whole.of_heap (w':=w.forCall tape i) (by rfl) hw;refine(contract (w.forCall tape i) w.heap.size i.args ds gs before hval hw' hc (hz.weights hw) hsh hholds).mono fun e W' ⟨v,he,hp⟩=> ?_
 subst he;exact ChangeSpec.post_blind hp
theorem m_{C:Checked}{M:Nat→Option Body}{os:Os}{fn:Func}{s:ChangeSpec}{conds:List PathCond}{rt:TypeId}{X:World→Array Value→Prop}(hM:fB C.prog F M)(law f:Nat)(ks:List Ak)(own:ownKnob C.prog.godebug=none)(started:os.Started)
  (noInit:C.prog.inits.idxOf? (F law)=none) (hfn:C.prog.funcs[F law]? =some fn)
  (witness:∃(w:World) (tape:Tape) (i:Input),w.os=os∧(w.forCall tape i).Shaped C.prog∧i.vars=[]∧Input.okWide C.prog (w.forCall tape i) .any w.heap.size (F law) i∧
   ((s.pre enc C.prog fn conds false (w.forCall tape i).memory i.args∧X (w.forCall tape i).memory i.args)∧sizedMet enc C.prog fn (OpenSpec.ofChange s) false (w.forCall tape i).memory i.args)∧({}:Assume).holds C.prog (lone (Frame.enter C.prog (F law) i.args .normal) [] (w.forCall tape i)))
  (hl:laidOutB C.prog=true) (hargs:gE C.prog f ks fn.params.toList=true) (hres:fn.resultTypes= #[rt]) (hrt:C.prog.underlying rt=some .bool) (hvars:s.vars=[])
  (hspec:∀ds:List (DataW H),ds.length=ks.length→s.fn H (ds++[])={results:=[.lit (.bool true)],args:=ds})
  (hrun:∀as,jT ks as→run M law as []=some (.c (.bool true),[])) (hG:∀W:World,W.ShapedOpen C.prog→∃m,W.cell? ⟨F 999999,0,none⟩=some (.int .i64 m)):
  ReturnsInHanded {} C os (F law) .any (fun w args=>(s.pre enc C.prog fn conds false w args∧X w args)∧sizedMet enc C.prog fn (OpenSpec.ofChange s) false w args) (s.post enc C.prog fn false true false false):=by
 refine gk (C:=C) own started noInit hfn witness ?_;intro W base args ds gs before hval hW _ _ hsh _;have hW':=hW;obtain⟨p,q,hA,hV,rfl,_,_⟩:=hW;have hlt:∀x∈p,x.block<W.heap.size:=fun x hx=>hW'.lt x (List.mem_append_left _ hx)
 rw[hvars] at hV;obtain⟨rfl,rfl⟩:=trodVars_none hV;obtain⟨as,h1,h2,h3,h4⟩:=l5 (F:=F) ks _ _ ds p hargs hA (fun j t v k1 k2=>hval j t v (by simpa using k1) (by simpa using k2));obtain⟨m,hm⟩:=hG W hsh;have hlow:F 999999<W.heap.size:=by
  by_cases c:F 999999<W.heap.size
  ·exact c
  ·have:W.heap[F 999999]? =none:=by simp[Array.getElem?_eq_none_iff];exact Nat.le_of_not_lt c
   simp only[World.cell?,this] at hm;cases hm
 refine(mU hM (f:=law) (b:=true) (hrun as h1) (.inr ⟨hlow,fun h=>h,m,hm⟩) (vals:=args) (w:=W) (by simpa using h2) (fun i v x k1 k2=>h4 i v x k1 (by simpa using k2))).mono fun e W' ⟨he,bel⟩=> ?_
 subst he;have hb:=lx hl bel ks _ _ ds p hargs hA hlt;refine⟨_,rfl,ds,[],p++[],[],p,[],hW', ?_, ?_, ?_,bel.frame _,fun h=>by cases h⟩
 ·rw[hspec ds h3,hres];exact trodAll_mk1 (shut_bool hrt _)
 ·rw[hspec ds h3];exact hb
 ·rw[hspec ds h3,hvars];rfl
end Mx
