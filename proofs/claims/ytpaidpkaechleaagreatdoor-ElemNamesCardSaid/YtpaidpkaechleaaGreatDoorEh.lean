/- Part. -/
import Derived.Test.YtpaidpkaechleaaGreatDoorEg
set_option linter.all false
namespace Go.Sy
open Go Go.Proofs Tryz Ord
theorem Oi {tr:Nat} {a b:Int} (h:IntKind.wrap .i64 ((BitVec.ofInt 64 a &&& BitVec.ofInt 64 b).toNat:Int)=(tr:Int)):∀ w,(Op.intBits .and .i64 a b).run prog w = .ok (.int .i64 (tr:Int)) w:=fun w=>by
 rw [←h];rfl
structure Dk (p i:Nat) (x:Rat) (b n tr c N:Nat):Prop where
 hp:Fit 300 (VY (aP p) (bZ p) (jY i) (kB i)).1∧Fit 300 (VY (aP p) (bZ p) (jY i) (kB i)).2
 hx:Fit 300 x
 h0:0<n∧n<1000000000
 hn:gT (aZ x (Rc (aP p) (bZ p) (jY i) (kB i)).1+mkRat 1 (2^1))=(n:Int)
 hb:b≤1∧c≤1
 ht:IntKind.wrap .i64 ((BitVec.ofInt 64 ((n:Int)-(b:Int)) &&& BitVec.ofInt 64 3).toNat:Int)=(tr:Int)
 hc:IntKind.wrap .i64 ((BitVec.ofInt 64 (tr:Int) &&& BitVec.ofInt 64 1).toNat:Int)=(c:Int)
 hf:∀ i',i'≤N→Fit 300 (pM (aP p) (bZ p) (sH (aP p) (bZ p) x (jY i) (kB i) n) c i').1∧Fit 300 (pM (aP p) (bZ p) (sH (aP p) (bZ p) x (jY i) (kB i) n) c i').2
 hgt:∀ i',i'<N→bZ p<(cS (pM (aP p) (bZ p) (sH (aP p) (bZ p) x (jY i) (kB i) n) c i')).2
 hle:(cS (pM (aP p) (bZ p) (sH (aP p) (bZ p) x (jY i) (kB i) n) c N)).2≤bZ p
 hs:Fit 300 (sH (aP p) (bZ p) x (jY i) (kB i) n).1∧Fit 300 (sH (aP p) (bZ p) x (jY i) (kB i) n).2
 hq:Fit 300 (Wm (aP p) (bZ p) (sH (aP p) (bZ p) x (jY i) (kB i) n)).1∧Fit 300 (Wm (aP p) (bZ p) (sH (aP p) (bZ p) x (jY i) (kB i) n)).2
 hN:N≤1000
theorem Dk.ok {p i:Nat} {x:Rat} {b n tr c N:Nat} (h:Dk p i x b n tr c N) (Ka:cR (aP p) (bZ p) (GL,GL) true (jY i) 300) (Kb:cR (aP p) (bZ p) (f239,f239) true (kB i) 300):NV (aP p) (bZ p) x b (jY i) (kB i) n tr c N 300:=
 ⟨Ka,Kb,h.hp,h.hx,h.h0,h.hn,h.hb,Oi h.ht,Oi h.hc,h.hf,h.hgt,h.hle,h.hs,h.hq,Ka.hu,h.hN,by omega⟩
def KX (p i:Nat) (x:Rat) (n tr c N:Nat):Rat×Rat:=Mw (aP p) (bZ p) x (jY i) (kB i) n tr c N
theorem au6:Dk 32 0 ((1:Int):Rat) 1 1 0 0 6:=⟨by decide +kernel,by decide +kernel,by decide +kernel,by decide +kernel,by decide +kernel,by decide +kernel,by decide +kernel,by decide +kernel,by decide +kernel,by decide +kernel,by decide +kernel,by decide +kernel,by omega⟩
theorem az2:Dk 64 1 ((1:Int):Rat) 1 1 0 0 9:=⟨by decide +kernel,by decide +kernel,by decide +kernel,by decide +kernel,by decide +kernel,by decide +kernel,by decide +kernel,by decide +kernel,by decide +kernel,by decide +kernel,by decide +kernel,by decide +kernel,by omega⟩
theorem aq4:Dk 128 2 ((1:Int):Rat) 1 1 0 0 15:=⟨by decide +kernel,by decide +kernel,by decide +kernel,by decide +kernel,by decide +kernel,by decide +kernel,by decide +kernel,by decide +kernel,by decide +kernel,by decide +kernel,by decide +kernel,by decide +kernel,by omega⟩
theorem as8:Dk 32 0 ((1:Int):Rat) 0 1 1 1 5:=⟨by decide +kernel,by decide +kernel,by decide +kernel,by decide +kernel,by decide +kernel,by decide +kernel,by decide +kernel,by decide +kernel,by decide +kernel,by decide +kernel,by decide +kernel,by decide +kernel,by omega⟩
theorem aw5:Dk 64 1 ((1:Int):Rat) 0 1 1 1 9:=⟨by decide +kernel,by decide +kernel,by decide +kernel,by decide +kernel,by decide +kernel,by decide +kernel,by decide +kernel,by decide +kernel,by decide +kernel,by decide +kernel,by decide +kernel,by decide +kernel,by omega⟩
theorem az1:Dk 128 2 ((1:Int):Rat) 0 1 1 1 15:=⟨by decide +kernel,by decide +kernel,by decide +kernel,by decide +kernel,by decide +kernel,by decide +kernel,by decide +kernel,by decide +kernel,by decide +kernel,by decide +kernel,by decide +kernel,by decide +kernel,by omega⟩
theorem ts2:Dk 32 0 ((2:Int):Rat) 1 1 0 0 5:=⟨by decide +kernel,by decide +kernel,by decide +kernel,by decide +kernel,by decide +kernel,by decide +kernel,by decide +kernel,by decide +kernel,by decide +kernel,by decide +kernel,by decide +kernel,by decide +kernel,by omega⟩
theorem tc3:Dk 32 0 ((3:Int):Rat) 0 2 2 0 4:=⟨by decide +kernel,by decide +kernel,by decide +kernel,by decide +kernel,by decide +kernel,by decide +kernel,by decide +kernel,by decide +kernel,by decide +kernel,by decide +kernel,by decide +kernel,by decide +kernel,by omega⟩
theorem tc4:Dk 32 0 ((4:Int):Rat) 0 3 3 1 6:=⟨by decide +kernel,by decide +kernel,by decide +kernel,by decide +kernel,by decide +kernel,by decide +kernel,by decide +kernel,by decide +kernel,by decide +kernel,by decide +kernel,by decide +kernel,by decide +kernel,by omega⟩
theorem Zz:aD prog 38 [.one (.dZ 105 [.bI [.dZ 130 [.bI (.int .u8 ((3:Nat):Int)::qC ((2:Int):Rat))]]]), .one (.int .i64 3)] (.ret [dK (7/8,1)]):=by
 have h:=kO 130 [.bI (.int .u8 ((3:Nat):Int)::qC ((2:Int):Rat))] (fun _=>(KX 32 0 ((2:Int):Rat) 1 0 0 5)) 0 (by omega) (fun i hi=>by
  obtain rfl:i=0:=by omega
  exact cH (aP 32) (bZ 32) 3 ((2:Int):Rat) (KX 32 0 ((2:Int):Rat) 1 0 0 5) 169 rfl (jP (aP 32) (bZ 32) ((2:Int):Rat) 6 2 1 0 0 5 300 (ts2.ok Hi nN))) 3 (by omega) (fun i hi=>(by decide +kernel:Fit 4000 (KX 32 0 ((2:Int):Rat) 1 0 0 5).1∧Fit 4000 (KX 32 0 ((2:Int):Rat) 1 0 0 5).2)) (fun i hi=>absurd hi (by omega)) (by decide +kernel)
 rwa [show rC (fun _=>(KX 32 0 ((2:Int):Rat) 1 0 0 5)) 3 0=(7/8,1) by decide +kernel] at h
theorem Xq:aD prog 38 [.one (.dZ 105 [.bI [.dZ 130 [.bI (.int .u8 ((4:Nat):Int)::qC ((3:Int):Rat))]]]), .one (.int .i64 3)] (.ret [dK (-1,-7/8)]):=by
 have h:=kO 130 [.bI (.int .u8 ((4:Nat):Int)::qC ((3:Int):Rat))] (fun _=>(KX 32 0 ((3:Int):Rat) 2 2 0 4)) 0 (by omega) (fun i hi=>by
  obtain rfl:i=0:=by omega
  exact cH (aP 32) (bZ 32) 4 ((3:Int):Rat) (KX 32 0 ((3:Int):Rat) 2 2 0 4) 171 rfl (gY (aP 32) (bZ 32) ((3:Int):Rat) 6 2 2 2 0 4 300 (tc3.ok Hi nN))) 3 (by omega) (fun i hi=>(by decide +kernel:Fit 4000 (KX 32 0 ((3:Int):Rat) 2 2 0 4).1∧Fit 4000 (KX 32 0 ((3:Int):Rat) 2 2 0 4).2)) (fun i hi=>absurd hi (by omega)) (by decide +kernel)
 rwa [show rC (fun _=>(KX 32 0 ((3:Int):Rat) 2 2 0 4)) 3 0=(-1,-7/8) by decide +kernel] at h
theorem WJ:aD prog 38 [.one (.dZ 105 [.bI [.dZ 130 [.bI (.int .u8 ((4:Nat):Int)::qC ((4:Int):Rat))]]]), .one (.int .i64 3)] (.ret [dK (-3/4,-5/8)]):=by
 have h:=kO 130 [.bI (.int .u8 ((4:Nat):Int)::qC ((4:Int):Rat))] (fun _=>(KX 32 0 ((4:Int):Rat) 3 3 1 6)) 0 (by omega) (fun i hi=>by
  obtain rfl:i=0:=by omega
  exact cH (aP 32) (bZ 32) 4 ((4:Int):Rat) (KX 32 0 ((4:Int):Rat) 3 3 1 6) 171 rfl (gY (aP 32) (bZ 32) ((4:Int):Rat) 6 2 3 3 1 6 300 (tc4.ok Hi nN))) 3 (by omega) (fun i hi=>(by decide +kernel:Fit 4000 (KX 32 0 ((4:Int):Rat) 3 3 1 6).1∧Fit 4000 (KX 32 0 ((4:Int):Rat) 3 3 1 6).2)) (fun i hi=>absurd hi (by omega)) (by decide +kernel)
 rwa [show rC (fun _=>(KX 32 0 ((4:Int):Rat) 3 3 1 6)) 3 0=(-3/4,-5/8) by decide +kernel] at h
theorem TP  :aD prog 82 [(.agg (.int .u8 3::qC ((2:Int):Rat)):aE),(.one (.int .i64 3):aE)] (.ret [dK (7/8,1)]):=by
 refine bU func82 Gt ?_;apply aA PM rfl;refine aQ false rfl (fun h=>by cases h) (fun _=>?_);apply aA (eC 3 ((2:Int):Rat)) rfl;apply aA Zz rfl;exact aK rfl
theorem Ue  :aD prog 82 [(.agg (.int .u8 4::qC ((3:Int):Rat)):aE),(.one (.int .i64 3):aE)] (.ret [dK (-1,-7/8)]):=by
 refine bU func82 Gt ?_;apply aA Pc rfl;refine aQ false rfl (fun h=>by cases h) (fun _=>?_);apply aA (eC 4 ((3:Int):Rat)) rfl;apply aA Xq rfl;exact aK rfl
theorem Vv  :aD prog 82 [(.agg (.int .u8 4::qC ((4:Int):Rat)):aE),(.one (.int .i64 3):aE)] (.ret [dK (-3/4,-5/8)]):=by
 refine bU func82 Gt ?_;apply aA OI rfl;refine aQ false rfl (fun h=>by cases h) (fun _=>?_);apply aA (eC 4 ((4:Int):Rat)) rfl;apply aA WJ rfl;exact aK rfl
theorem TB  :aD prog 82 [(.agg (.int .u8 3::qC (0:Rat)):aE),(.one (.int .i64 3):aE)] (.ret [dK (0,0)]):=by
 refine bU func82 Gt ?_;apply aA Pj rfl;refine aQ true rfl (fun _=>?_) (fun h=>by cases h);have h:=Ng 0 3 8 (by decide +kernel);rw [show fK 0 (3:Int).toNat=0 by decide +kernel,show EA 0 (3:Int).toNat=0 by decide +kernel] at h;apply aA h rfl;exact aK rfl
open Go Go.Proofs Tryz Ord
structure av9 (V:Nat→Rat×Rat) (t:List UInt8):Prop where
 f:∀ i,i≤2→Fit 300 (V i).1∧Fit 300 (V i).2∧(V i).1≤(V i).2∧0<oZ ((V i).1*gH 30)∧30+1-(dec (oZ ((V i).1*gH 30)).natAbs).length≤9
 n:∀ i,i<2→¬ oZ ((V i).1*gH 30)=oZ ((V i).2*gH 30)
 x:oZ ((V 2).1*gH 30)=oZ ((V 2).2*gH 30)∧Rl (oZ ((V 2).1*gH 30)).natAbs 30=t
theorem GY (kind:Nat) (x y:Rat) (V:Nat→Rat×Rat) (t:List UInt8) (K:av9 V t) (f:FuncId) (hf:UK[kind]? = some (.dZ f []))
  (hV:∀ i,i≤2→aD prog f [gF (aP (32*2^i)) (bZ (32*2^i)),qT x] (.ret [dK (V i)]))
  (hc:aD prog 81 [.one (.int .u8 (kind:Int)),qT x] (.ret [.one (.int .i64 0)])) (he:aD prog 87 [.agg (.int .u8 (kind:Int)::qC x)] (.ret [qT y, .one (.bool false)])) (hk:kind<7:=by omega) :
  aD prog 28 [.one (.int .u8 (kind:Int)),qT x, .one (.int .i64 30)] (.ret [bS t, .one (.int .i64 0)]):=by
 have d:∀ i,i≤2→aD prog 93 [dK (V i), .one (.int .i64 ((30:Nat):Int))] _:=fun i hi=>rE (V i) 30 300 (K.f i hi).1 (K.f i hi).2.1 (K.f i hi).2.2.1 (K.f i hi).2.2.2.1 (K.f i hi).2.2.2.2;refine Hc kind x y 30 V 2 t (fun i hi=>cH _ _ kind x (V i) f hf (hV i hi) hk) hc he (fun i hi=>?_) ?_
 ·have h:=d i (by omega);rw [decide_eq_false (K.n i hi)] at h;exact ⟨_,h⟩
 ·have h:=d 2 (by omega);rw [decide_eq_true K.x.1,if_pos K.x.1,K.x.2] at h;exact h
def snN:Nat→Nat
 | 0=>6
 | 1=>9
 | _=>15
def snV (i:Nat):Rat×Rat:=KX (32*2^i) i ((1:Int):Rat) 1 0 0 (snN i)
theorem Zj:aD prog 28 [.one (.int .u8 3),qT ((1:Int):Rat), .one (.int .i64 30)] (.ret [bS [48,46,56,52,49,52,55,48,57,56,52,56,48,55,56,57,54,53,48,54,54,53,50,53,48,50,51,50,49,54,51,48], .one (.int .i64 0)]):=
 GY 3 ((1:Int):Rat) _ snV _ ⟨by decide +kernel,by decide +kernel,by decide +kernel⟩ 169 rfl (fun i hi=>match i,hi with
 | 0,_=>jP (aP 32) (bZ 32) ((1:Int):Rat) (jY 0) (kB 0) 1 0 0 6 300 (au6.ok Hi nN)
 | 1,_=>jP (aP 64) (bZ 64) ((1:Int):Rat) (jY 1) (kB 1) 1 0 0 9 300 (az2.ok Rs HE)
 | 2,_=>jP (aP 128) (bZ 128) ((1:Int):Rat) (jY 2) (kB 2) 1 0 0 15 300 (aq4.ok QK Im)) Pm OD
def csN:Nat→Nat
 | 0=>5
 | 1=>9
 | _=>15
def csV (i:Nat):Rat×Rat:=KX (32*2^i) i ((1:Int):Rat) 1 1 1 (csN i)
theorem ZV:aD prog 28 [.one (.int .u8 4),qT ((1:Int):Rat), .one (.int .i64 30)] (.ret [bS [48,46,53,52,48,51,48,50,51,48,53,56,54,56,49,51,57,55,49,55,52,48,48,57,51,54,54,48,55,52,52,51], .one (.int .i64 0)]):=
 GY 4 ((1:Int):Rat) _ csV _ ⟨by decide +kernel,by decide +kernel,by decide +kernel⟩ 171 rfl (fun i hi=>match i,hi with
 | 0,_=>gY (aP 32) (bZ 32) ((1:Int):Rat) (jY 0) (kB 0) 1 1 1 5 300 (as8.ok Hi nN)
 | 1,_=>gY (aP 64) (bZ 64) ((1:Int):Rat) (jY 1) (kB 1) 1 1 1 9 300 (aw5.ok Rs HE)
 | 2,_=>gY (aP 128) (bZ 128) ((1:Int):Rat) (jY 2) (kB 2) 1 1 1 15 300 (az1.ok QK Im)) PK PJ
theorem af4:lU (aP 32) (bZ 32) (((1:Int):Rat)-((1:Int):Rat),((1:Int):Rat)-((1:Int):Rat)) 1 300:=⟨by decide +kernel,by decide +kernel,by decide +kernel,by decide +kernel,by decide +kernel,by omega,by omega⟩
theorem ai1:lU (aP 32) (bZ 32) (((1:Int):Rat),((1:Int):Rat)) 9 300:=⟨by decide +kernel,by decide +kernel,by decide +kernel,by decide +kernel,by decide +kernel,by omega,by omega⟩
theorem ai4:lU (aP 64) (bZ 64) (((1:Int):Rat)-((1:Int):Rat),((1:Int):Rat)-((1:Int):Rat)) 1 300:=⟨by decide +kernel,by decide +kernel,by decide +kernel,by decide +kernel,by decide +kernel,by omega,by omega⟩
theorem am1:lU (aP 64) (bZ 64) (((1:Int):Rat),((1:Int):Rat)) 14 300:=⟨by decide +kernel,by decide +kernel,by decide +kernel,by decide +kernel,by decide +kernel,by omega,by omega⟩
theorem ai9:lU (aP 128) (bZ 128) (((1:Int):Rat)-((1:Int):Rat),((1:Int):Rat)-((1:Int):Rat)) 1 300:=⟨by decide +kernel,by decide +kernel,by decide +kernel,by decide +kernel,by decide +kernel,by omega,by omega⟩
theorem ah9:lU (aP 128) (bZ 128) (((1:Int):Rat),((1:Int):Rat)) 25 300:=⟨by decide +kernel,by decide +kernel,by decide +kernel,by decide +kernel,by decide +kernel,by omega,by omega⟩
def xpN:Nat→Nat
 | 0=>9
 | 1=>14
 | _=>25
def xpV (i:Nat):Rat×Rat:=Gz (aP (32*2^i)) (bZ (32*2^i)) (pC (aP (32*2^i)) (bZ (32*2^i)) (((1:Int):Rat),((1:Int):Rat)) (xpN i)) (pC (aP (32*2^i)) (bZ (32*2^i)) (((1:Int):Rat)-((1:Int):Rat),((1:Int):Rat)-((1:Int):Rat)) 1) 1
theorem Zg:aD prog 28 [.one (.int .u8 1),qT ((1:Int):Rat), .one (.int .i64 30)] (.ret [bS [50,46,55,49,56,50,56,49,56,50,56,52,53,57,48,52,53,50,51,53,51,54,48,50,56,55,52,55,49,51,53,51], .one (.int .i64 0)]):=
 GY 1 ((1:Int):Rat) _ xpV _ ⟨by decide +kernel,by decide +kernel,by decide +kernel⟩ 166 rfl (fun i hi=>match i,hi with
 | 0,_=>jQ (aP 32) (bZ 32) 1 9 300 af4 ai1
 | 1,_=>jQ (aP 64) (bZ 64) 1 14 300 ai4 am1
 | 2,_=>jQ (aP 128) (bZ 128) 1 25 300 ai9 ah9) Lm Le
end Go.Sy
